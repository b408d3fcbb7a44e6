/- Printed proofs of functions of the program and of the reference, by a program of this work over the kit's printer. -/
import Derived.Test.YtidfblakgolbpaaKABKJAH0
import Derived.Test.YtidfblakgolbpaaKBEEMKG0
import Derived.Test.YtidfblakgolbpaaKGBPODH0
import Derived.Test.YtidfblakgolbpaaKGBPODH1
import Derived.Test.YtidfblakgolbpaaKLFIGDF0
import Derived.Test.YtidfblakgolbpaaKOMGJCI0
import Derived.Test.YtidfblakgolbpaaKW0
namespace Go.Proofs.Ytidfblakgolbpaa.B
open Go.RowKit Go.Proofs.YtidfblakgolbpaaW.PrintWords Go.Proofs.YtidfblakgolbpaaW.PrintLast Go.Proofs.YtidfblakgolbpaaW.PrintMore
attribute [local go_sem] max2_int min2_int max_two min_two max_three min_three max_four min_four
set_option linter.unusedVariables false
set_option linter.unusedSimpArgs false
mutual
def z3.j0 : Nat → Int → Int → List Int → Bool → List (List Int) → Option (Bool)
 | 0, _, _, _, _, _ => none
 | k + 1, x6, x7, x10, x79, x106000 => if x79 = true then (some false) else (if 0 ≤ x7 then (if x7 < (x106000.length : Int) then (if (x10.length : Int) = ((rd_ListInt x106000 x7).length : Int) then (if (x10.length : Int) = 0 then (z3.j1 k x6 x7 x10 (((rd_ListInt x106000 x7).length : Int) != 1) x106000) else (z3.j1 k x6 x7 x10 false x106000)) else (if (x10.length : Int) = 0 then (z3.j1 k x6 x7 x10 (((rd_ListInt x106000 x7).length : Int) != 1) x106000) else (z3.j1 k x6 x7 x10 true x106000))) else (none)) else (none))
def z3.j1 : Nat → Int → Int → List Int → Bool → List (List Int) → Option (Bool)
 | 0, _, _, _, _, _ => none
 | k + 1, x6, x7, x10, x107, x106000 => if x107 = true then (some false) else (z3.l0 k x6 x7 x10 0 x106000)
def z3.l0 : Nat → Int → Int → List Int → Int → List (List Int) → Option (Bool)
 | 0, _, _, _, _, _ => none
 | k + 1, x6, x7, x10, x14, x106000 => if x14 < (x10.length : Int) then (if 0 ≤ x14 then (if (rd x10 x14) < 0 then (z3.j3 k x6 x7 x10 x14 true x106000) else (z3.j3 k x6 x7 x10 x14 (decide ((rd x10 x14) ≥ x6)) x106000)) else (none)) else (if 0 ≤ x7 then (if x7 < (x106000.length : Int) then ((z12.f k x106000 (wrap64 (((rd_ListInt x106000 x7).length : Int) - 1))).bind fun bt126 => (if bt126.2 = 0 then ((z10.f k bt126.1 x7).bind fun t130 => (some t130)) else (some false))) else (none)) else (none))
def z3.j3 : Nat → Int → Int → List Int → Int → Bool → List (List Int) → Option (Bool)
 | 0, _, _, _, _, _, _ => none
 | k + 1, x6, x7, x10, x14, x126, x106000 => if x126 = true then (some false) else (if 0 ≤ x14 then (if x14 < (x10.length : Int) then ((z7.f k x106000 (rd x10 x14)).bind fun bt134 => (if bt134.2 = 0 then ((z10.f k bt134.1 x7).bind fun t138 => (if t138 = true then (z3.l0 k x6 x7 x10 (wrap64 (x14 + 1)) x106000) else (some false))) else (some false))) else (none)) else (none))
end
def z3.f (k : Nat) (l0 : List Int) (l1 : List Int) : Option (Bool) := (z4.f l0 l1).bind fun t101 => (if t101 = true then (some true) else ((z5.f k l0).bind fun t102 => (if (t102.length : Int) = 0 then (some true) else ((z6.f l1 0 (t102.length : Int)).bind fun t106 => ((z7.f k t102 t106).bind fun bt107 => ((z8.f k t102 t106).bind fun bt111 => ((z9.f k t102 t106).bind fun bt115 => (if bt107.2 = 0 then ((z10.f k bt107.1 t106).bind fun t120 => (if t120 = true then (if bt111.2 = 0 then (if bt115.2 = 0 then ((z11.f k bt115.1).bind fun t121 => (if t121 = true then (z3.j0 k (t102.length : Int) t106 bt111.1 ((bt115.1.length : Int) != (wrap64 ((bt107.1.length : Int) - 1))) t102) else (z3.j0 k (t102.length : Int) t106 bt111.1 true t102))) else (z3.j0 k (t102.length : Int) t106 bt111.1 true t102)) else (z3.j0 k (t102.length : Int) t106 bt111.1 true t102)) else (z3.j0 k (t102.length : Int) t106 bt111.1 true t102))) else (z3.j0 k (t102.length : Int) t106 bt111.1 true t102)))))))))
def z3.T20 : Bool × List (List Nat × List Nat) := (true, [([], []), ([], []), ([], []), ([1, 2], [1, 2]), ([3], [3]), ([0, 4], [0, 4]), ([5], [5]), ([6], [6]), ([6], [6]), ([7, 5, 0, 1, 2, 3, 4, 5, 6, 7], [7]), ([8, 9, 0, 1, 2, 3, 4, 5, 6, 7, 8, 9], [8])])
def z3.B20 : List Nat := [0, 0, 0, 6, 14, 31, 63, 127, 127, 255, 1023]
theorem z3.tab20 : rtab .any (opsOf Try.f3 20) = z3.T20 := by kernel_rfl
theorem z3.bits20 : waitsOk z3.T20.2 z3.B20 = true := by kernel_rfl
def z3.T23 : Bool × List (List Nat × List Nat) := (true, [([], []), ([], []), ([1], [1]), ([], []), ([2, 3], [2, 3]), ([4], [4]), ([5], [5]), ([6], [6]), ([0, 7], [0, 7]), ([8], [8]), ([9], [9]), ([9], [9]), ([10, 8, 0, 1, 2, 3, 4, 5, 6, 7, 8, 9, 10], [10]), ([11, 12, 0, 1, 2, 3, 4, 5, 6, 7, 8, 9, 10, 11, 12], [11])])
def z3.B23 : List Nat := [0, 0, 2, 0, 14, 30, 62, 126, 255, 511, 1023, 1023, 2047, 8191]
theorem z3.tab23 : rtab .any (opsOf Try.f3 23) = z3.T23 := by kernel_rfl
theorem z3.bits23 : waitsOk z3.T23.2 z3.B23 = true := by kernel_rfl
set_option maxHeartbeats 8000000 in
set_option maxRecDepth 100000 in
theorem z3.calls (k : Nat) (A0 : Option Addr) (c0 : Nat) (l0 : List Int) (A1 : Option Addr) (c1 : Nat) (l1 : List Int) (r : Bool) (w : World) (hr0 : Kd.C (Kd.int .u8) w A0 l0.length l0) (hc0 : l0.length ≤ c0) (hr1 : Kd.C (Kd.int .u8) w A1 l1.length l1) (hc1 : l1.length ≤ c1) (h : z3.f k l0 l1 = some r) (ht_ : r = true) :
  Calls Try.prog 3 #[.slice A0 l0.length c0, .slice A1 l1.length c1] w fun e w' => e = .returned (.bool r) ∧ Below w.heap.size w w' := by
 have hu26 := Try.underlying26
 have HR0 := Aside0.mk hr0
 have HC0 := Aside0.mk hc0
 clear hr0 hc0
 have HR1 := Aside0.mk hr1
 have HC1 := Aside0.mk hc1
 clear hr1 hc1
 have HB := Aside0.mk (Below.refl w.heap.size w)
 have H : ((z4.f l0 l1).bind fun t101 => (if t101 = true then (some true) else ((z5.f k l0).bind fun t102 => (if (t102.length : Int) = 0 then (some true) else ((z6.f l1 0 (t102.length : Int)).bind fun t106 => ((z7.f k t102 t106).bind fun bt107 => ((z8.f k t102 t106).bind fun bt111 => ((z9.f k t102 t106).bind fun bt115 => (if bt107.2 = 0 then ((z10.f k bt107.1 t106).bind fun t120 => (if t120 = true then (if bt111.2 = 0 then (if bt115.2 = 0 then ((z11.f k bt115.1).bind fun t121 => (if t121 = true then (z3.j0 k (t102.length : Int) t106 bt111.1 ((bt115.1.length : Int) != (wrap64 ((bt107.1.length : Int) - 1))) t102) else (z3.j0 k (t102.length : Int) t106 bt111.1 true t102))) else (z3.j0 k (t102.length : Int) t106 bt111.1 true t102)) else (z3.j0 k (t102.length : Int) t106 bt111.1 true t102)) else (z3.j0 k (t102.length : Int) t106 bt111.1 true t102))) else (z3.j0 k (t102.length : Int) t106 bt111.1 true t102)))))))))) = some r := h
 clear h
 replace H := Option.bind_eq_some_iff.mp H
 obtain ⟨t101, A30, H⟩ := H
 have A3 := Aside0.mk A30
 clear A30
 by_cases c4 : t101 = true
 ·subst c4
  replace H := T_ H
  obtain rfl := Option.some.inj H
  go_enter Try.func3, Try.ntmps3
  go_wp2_with (first | ((with_reducible refine gate_callee (f := 4) rfl ?_); refine goesL_ (some 21) rfl rfl Try.func4 (by kernel_rfl) rfl #[.slice A0 l0.length c0, .slice A1 l1.length c1] rfl (by (try simp only [List.map_toArray, List.map_cons, List.map_nil]); first | done | rfl | (simp only [List.length_drop, List.length_take]; rfl)) ?_; (with_reducible refine (z4.calls _ _ l0 _ _ l1 true _ ?side1 ?side2 ?side3 ?side4 A3.out).mono ?_); (case side1 => exact KC_ HR0.out); (case side2 => exact HC0.out); (case side3 => exact KC_ HR1.out); (case side4 => exact HC1.out); rintro e w' ⟨rfl, ⟨nd, rfl⟩⟩; refine ⟨_, rfl, ?_⟩))
  go_ret
  exact ⟨F_, B_ HB.out⟩
 ·replace c4 := Bool.eq_false_iff.mpr c4
  subst c4
  replace H := N_ H
  replace H := Option.bind_eq_some_iff.mp H
  obtain ⟨t102, A50, H⟩ := H
  have A5 := Aside0.mk A50
  clear A50
  by_cases c6 : (t102.length : Int) = 0
  ·rw [if_pos c6] at H
   have c6b0 : ((t102.length : Int) == 0) = true := beq_iff_eq.mpr c6
   have c6b1 : ((t102.length : Int) != 0) = false := bne_eq_false_iff_eq.mpr c6
   clear c6
   obtain rfl := Option.some.inj H
   go_enter Try.func3, Try.ntmps3
   go_wp2_with (first | ((with_reducible refine gate_callee (f := 4) rfl ?_); refine goesL_ (some 21) rfl rfl Try.func4 (by kernel_rfl) rfl #[.slice A0 l0.length c0, .slice A1 l1.length c1] rfl (by (try simp only [List.map_toArray, List.map_cons, List.map_nil]); first | done | rfl | (simp only [List.length_drop, List.length_take]; rfl)) ?_; (with_reducible refine (z4.calls _ _ l0 _ _ l1 false _ ?side1 ?side2 ?side3 ?side4 A3.out).mono ?_); (case side1 => exact KC_ HR0.out); (case side2 => exact HC0.out); (case side3 => exact KC_ HR1.out); (case side4 => exact HC1.out); rintro e w' ⟨rfl, ⟨nd, rfl⟩⟩; refine ⟨_, rfl, ?_⟩) | ((with_reducible refine gate_callee (f := 5) rfl ?_); refine goesL_ (some 23) rfl rfl Try.func5 (by kernel_rfl) rfl #[.slice A0 l0.length c0] rfl (by (try simp only [List.map_toArray, List.map_cons, List.map_nil]); first | done | rfl | (simp only [List.length_drop, List.length_take]; rfl)) ?_; (with_reducible refine (z5.calls k _ _ l0 t102 _ ?side1 ?side2 A5.out).mono ?_); (case side1 => exact KC_ HR0.out); (case side2 => exact HC0.out); rintro e w7 ⟨v103, rfl, ho0, hb⟩; refine ⟨_, rfl, ?_⟩; have HO104 := Aside0.mk (Kd.N_lower (Kd.N_mono (ok' := fun k_ => True) ho0 (fun k_ hk_ => trivial)) (below_size (B_ HB.out))); replace HB := Aside0.mk (below_step (B_ HB.out) hb); (try clear hb); (try clear hb2); (try clear hk); (try clear hi); (try clear ho0)) | ((with_reducible refine gate_dst (N := 5) rfl ?_); (try (refine gate_guard (by rfl) ?_; dsimp only)); refine box_event ?hg (N := 5) ?hd (cs := #[.slice none 0 0]) (t := 26) ?hr ?_; (case hd => rfl); (case hg => rfl); (case hr => first | (go_simp; done) | (go_simp; rfl)); intro gb105 hg w8 hbox hb; have n0_ := Aside0.mk (Kd.N_below (Kd.N_elderB (KN_ HO104.out) gb105 (Nat.le_of_eq hg.symm)) hb); have n1_ := Aside0.mk (below_step (B_ HB.out) hb); have n2_ := Aside0.mk (hbox); have n3_ := Aside0.mk ((by rw [hg]; exact (below_size (B_ HB.out)) : w.heap.size ≤ gb105)); have n4_ := Aside0.mk ((by rw [hg]; exact (below_size (B_ HB.out)) : w.heap.size ≤ gb105)); clear HO104; clear HB; have HO104 := n0_; have HB := n1_; have BK105 := n2_; have GW105 := n3_; have GE105 := n4_; clear n0_ n1_ n2_ n3_ n4_; clear hb hbox hg; obtain ⟨Ao9, co9, eo9⟩ := Kd.N_slice HO104.out; subst eo9; have hcz10_0 : w8.cell? ⟨gb105, 0, none⟩ = some (.slice none 0 0) := (blk_cell BK105.out 0).trans rfl; have hfz10_0 := blk_frozen BK105.out 0))
   go_ret
   exact ⟨F_, B1_ HB.out GE105.out⟩
  ·rw [if_neg c6] at H
   have c6b0 : ((t102.length : Int) == 0) = false := beq_eq_false_iff_ne.mpr c6
   have c6b1 : ((t102.length : Int) != 0) = true := bne_iff_ne.mpr c6
   have c6b2 : ¬ (t102 = []) := fun h_ => c6 (by rw [h_]; rfl)
   replace H := Option.bind_eq_some_iff.mp H
   obtain ⟨t106, A110, H⟩ := H
   have A11 := Aside0.mk A110
   clear A110
   replace H := Option.bind_eq_some_iff.mp H
   obtain ⟨⟨t107, t110⟩, A120, H⟩ := H
   try dsimp only at H
   have A12 := Aside0.mk A120
   clear A120
   replace H := Option.bind_eq_some_iff.mp H
   obtain ⟨⟨t111, t114⟩, A130, H⟩ := H
   try dsimp only at H
   have A13 := Aside0.mk A130
   clear A130
   replace H := Option.bind_eq_some_iff.mp H
   obtain ⟨⟨t115, t118⟩, A140, H⟩ := H
   try dsimp only at H
   have A14 := Aside0.mk A140
   clear A140
   have HC15 := Aside0.mk H
   clear H
   go_enter Try.func3, Try.ntmps3
   go_upto_region 11 with (first | ((with_reducible refine gate_callee (f := 4) rfl ?_); refine goesL_ (some 21) rfl rfl Try.func4 (by kernel_rfl) rfl #[.slice A0 l0.length c0, .slice A1 l1.length c1] rfl (by (try simp only [List.map_toArray, List.map_cons, List.map_nil]); first | done | rfl | (simp only [List.length_drop, List.length_take]; rfl)) ?_; (with_reducible refine (z4.calls _ _ l0 _ _ l1 false _ ?side1 ?side2 ?side3 ?side4 A3.out).mono ?_); (case side1 => exact KC_ HR0.out); (case side2 => exact HC0.out); (case side3 => exact KC_ HR1.out); (case side4 => exact HC1.out); rintro e w' ⟨rfl, ⟨nd, rfl⟩⟩; refine ⟨_, rfl, ?_⟩) | ((with_reducible refine gate_callee (f := 5) rfl ?_); refine goesL_ (some 23) rfl rfl Try.func5 (by kernel_rfl) rfl #[.slice A0 l0.length c0] rfl (by (try simp only [List.map_toArray, List.map_cons, List.map_nil]); first | done | rfl | (simp only [List.length_drop, List.length_take]; rfl)) ?_; (with_reducible refine (z5.calls k _ _ l0 t102 _ ?side1 ?side2 A5.out).mono ?_); (case side1 => exact KC_ HR0.out); (case side2 => exact HC0.out); rintro e w16 ⟨v103, rfl, ho0, hb⟩; refine ⟨_, rfl, ?_⟩; have HO104 := Aside0.mk (Kd.N_lower (Kd.N_mono (ok' := fun k_ => True) ho0 (fun k_ hk_ => trivial)) (below_size (B_ HB.out))); replace HB := Aside0.mk (below_step (B_ HB.out) hb); (try clear hb); (try clear hb2); (try clear hk); (try clear hi); (try clear ho0)) | ((with_reducible refine gate_dst (N := 5) rfl ?_); (try (refine gate_guard (by rfl) ?_; dsimp only)); refine box_event ?hg (N := 5) ?hd (cs := #[.slice none 0 0]) (t := 26) ?hr ?_; (case hd => rfl); (case hg => rfl); (case hr => first | (go_simp; done) | (go_simp; rfl)); intro gb105 hg w17 hbox hb; have n0_ := Aside0.mk (Kd.N_below (Kd.N_elderB (KN_ HO104.out) gb105 (Nat.le_of_eq hg.symm)) hb); have n1_ := Aside0.mk (below_step (B_ HB.out) hb); have n2_ := Aside0.mk (hbox); have n3_ := Aside0.mk ((by rw [hg]; exact (below_size (B_ HB.out)) : w.heap.size ≤ gb105)); have n4_ := Aside0.mk ((by rw [hg]; exact (below_size (B_ HB.out)) : w.heap.size ≤ gb105)); clear HO104; clear HB; have HO104 := n0_; have HB := n1_; have BK105 := n2_; have GW105 := n3_; have GE105 := n4_; clear n0_ n1_ n2_ n3_ n4_; clear hb hbox hg; obtain ⟨Ao18, co18, eo18⟩ := Kd.N_slice HO104.out; subst eo18; have hcz19_0 : w17.cell? ⟨gb105, 0, none⟩ = some (.slice none 0 0) := (blk_cell BK105.out 0).trans rfl; have hfz19_0 := blk_frozen BK105.out 0) | ((with_reducible refine gate_callee (f := 6) rfl ?_); refine goesL_ (some 31) rfl rfl Try.func6 (by kernel_rfl) rfl #[.slice A1 l1.length c1, .int .i64 0, .int .i64 (t102.length : Int)] rfl (by (try simp only [List.map_toArray, List.map_cons, List.map_nil]); first | done | rfl | (simp only [List.length_drop, List.length_take]; rfl)) ?_; (with_reducible refine (z6.calls _ _ l1 0 (t102.length : Int) t106 _ ?side1 ?side2 A11.out).mono ?_); (case side1 => exact Kd.C_below HR1.out (B1_ HB.out GE105.out)); (case side2 => exact HC1.out); rintro e w' ⟨rfl, ⟨nd, rfl⟩⟩; refine ⟨_, rfl, ?_⟩) | ((with_reducible refine gate_callee (f := 7) rfl ?_); refine goesL_ (some 35) rfl rfl Try.func7 (by kernel_rfl) rfl #[.agg #[.slice Ao18 t102.length co18], .int .i64 t106] rfl (by (try simp only [List.map_toArray, List.map_cons, List.map_nil]); first | done | rfl | (simp only [List.length_drop, List.length_take]; rfl)) ?_; (with_reducible refine (z7.calls k _ _ t102 t106 t107 t110 _ ?side1 ?side2 A12.out).mono ?_); (case side1 => refine (Kd.N_reads' (e := 29) (base := w.heap.size) (ok := fun k_ => (True ∧ k_ ≠ gb105)) (n := t102.length) (c := co18) ?_).2.2; exact (by (with_reducible repeat (first | apply Kd.N_alloc | apply Kd.N_drewN | apply Kd.N_drew)); exact (Kd.N_mono (Kd.N_far (p := ⟨gb105, 0, none⟩) (Kd.N_mono HO104.out (fun k_ hk => (⟨hk, hk.2⟩ : _ ∧ k_ ≠ gb105))) (fun _ hk => hk.2) (.slice Ao18 t102.length co18)) (fun _ h_ => h_.1)))); (case side2 => exact (Kd.N_reads' HO104.out).2.1); rintro e w20 ⟨v108, rfl, ho0, hb⟩; refine ⟨_, rfl, ?_⟩; obtain ⟨nan21, hnan21⟩ := Kd.size_letter hb; replace HO104 := Aside0.mk (Kd.N_elder' (by (with_reducible repeat (first | apply Kd.N_alloc | apply Kd.N_drewN | apply Kd.N_drew)); exact (Kd.N_mono (Kd.N_far (p := ⟨gb105, 0, none⟩) (Kd.N_mono HO104.out (fun k_ hk => (⟨hk, hk.2⟩ : _ ∧ k_ ≠ gb105))) (fun _ hk => hk.2) (.slice Ao18 t102.length co18)) (fun _ h_ => h_.1))) (Kd.R_base ho0) hb); have HO109 := Aside0.mk (Kd.R_lower (Kd.R_geN ho0 hnan21) (below_size (B1_ HB.out GE105.out))); replace BK105 := Aside0.mk (blk_below (g := gb105) (o := .cells #[.slice Ao18 t102.length co18] 26 (0, 0)) (by (with_reducible repeat (first | refine blk_drewN ?_ _ | refine blk_drew ?_ | refine blk_alloc ?_ _)); refine blk_put (cs := #[.slice none 0 0]) ?_ 0 _ rfl; (with_reducible repeat (first | refine blk_drewN ?_ _ | refine blk_drew ?_ | refine blk_alloc ?_ _)); exact BK105.out) hb); replace HB := Aside0.mk (below_step (B1_ HB.out GE105.out) hb); (try clear hb); (try clear hb2); (try clear hk); (try clear hi); (try clear ho0); have hcz22_0 : w20.cell? ⟨gb105, 0, none⟩ = some (.slice Ao18 t102.length co18) := (blk_cell BK105.out 0).trans rfl; have hfz22_0 := blk_frozen BK105.out 0) | ((with_reducible refine gate_callee (f := 8) rfl ?_); refine goesL_ (some 41) rfl rfl Try.func8 (by kernel_rfl) rfl #[.agg #[.slice Ao18 t102.length co18], .int .i64 t106] rfl (by (try simp only [List.map_toArray, List.map_cons, List.map_nil]); first | done | rfl | (simp only [List.length_drop, List.length_take]; rfl)) ?_; (with_reducible refine (z8.calls k _ _ t102 t106 t111 t114 _ ?side1 ?side2 A13.out).mono ?_); (case side1 => exact KC_ (Kd.N_reads' HO104.out).2.2); (case side2 => exact (Kd.N_reads' HO104.out).2.1); rintro e w23 ⟨v112, rfl, ho0, hb⟩; refine ⟨_, rfl, ?_⟩; obtain ⟨nan24, hnan24⟩ := Kd.size_letter hb; have n0_ := Aside0.mk (Kd.N_elder' (KN_ HO104.out) (Kd.R_base ho0) hb); have n1_ := Aside0.mk (Kd.R_told (Kd.R_oldN (KR_ HO109.out) hb hnan24) (Kd.R_baseN ho0 hnan24)); have n2_ := Aside0.mk (Kd.R_lower (Kd.R_geN (Kd.R_new' ho0 (Kd.R_lt (KR_ HO109.out))) hnan24) (below_size (B1_ HB.out GE105.out))); have n3_ := Aside0.mk (blk_below (g := gb105) (o := .cells #[.slice Ao18 t102.length co18] 26 (0, 0)) (KB_ BK105.out) hb); have n4_ := Aside0.mk (below_step (B1_ HB.out GE105.out) hb); clear HO104; clear HO109; clear BK105; clear HB; have HO104 := n0_; have HO109 := n1_; have HO113 := n2_; have BK105 := n3_; have HB := n4_; clear n0_ n1_ n2_ n3_ n4_; (try clear hb); (try clear hb2); (try clear hk); (try clear hi); (try clear ho0); have hcz25_0 : w23.cell? ⟨gb105, 0, none⟩ = some (.slice Ao18 t102.length co18) := (blk_cell BK105.out 0).trans rfl; have hfz25_0 := blk_frozen BK105.out 0) | ((with_reducible refine gate_callee (f := 9) rfl ?_); refine goesL_ (some 47) rfl rfl Try.func9 (by kernel_rfl) rfl #[.agg #[.slice Ao18 t102.length co18], .int .i64 t106] rfl (by (try simp only [List.map_toArray, List.map_cons, List.map_nil]); first | done | rfl | (simp only [List.length_drop, List.length_take]; rfl)) ?_; (with_reducible refine (z9.calls k _ _ t102 t106 t115 t118 _ ?side1 ?side2 A14.out).mono ?_); (case side1 => exact KC_ (Kd.N_reads' HO104.out).2.2); (case side2 => exact (Kd.N_reads' HO104.out).2.1); rintro e w26 ⟨v116, rfl, ho0, hb⟩; refine ⟨_, rfl, ?_⟩; obtain ⟨nan27, hnan27⟩ := Kd.size_letter hb; have n0_ := Aside0.mk (Kd.N_elder' (KN_ HO104.out) (by first | exact Kd.N_base ho0 | exact Kd.S_base ho0) hb); have n1_ := Aside0.mk (Kd.R_oldN (KR_ HO109.out) hb hnan27); have n2_ := Aside0.mk (Kd.R_oldN (KR_ HO113.out) hb hnan27); have n3_ := Aside0.mk (Kd.N_lower (Kd.N_mono (ok' := fun k_ => some k_ ≠ (.slice Ao18 t102.length co18 : Value).ownBlock ∧ some k_ ≠ (v108 : Value).ownBlock ∧ some k_ ≠ (v112 : Value).ownBlock ∧ k_ ≠ gb105) (Kd.S_N (Kd.S_bound ho0)) (fun k_ hk_ => ⟨(Kd.fresh' (Kd.N_lt (KN_ HO104.out)) k_ hk_.2.1), (Kd.fresh' (Kd.R_lt (KR_ HO109.out)) k_ hk_.2.1), (Kd.fresh' (Kd.R_lt (KR_ HO113.out)) k_ hk_.2.1), (Kd.freshB (g := gb105) (o := .cells #[.slice Ao18 t102.length co18] 26 (0, 0)) (KB_ BK105.out) k_ hk_.2.1)⟩)) (below_size (B1_ HB.out GE105.out))); have n4_ := Aside0.mk (blk_below (g := gb105) (o := .cells #[.slice Ao18 t102.length co18] 26 (0, 0)) (KB_ BK105.out) hb); have n5_ := Aside0.mk (below_step (B1_ HB.out GE105.out) hb); clear HO104; clear HO109; clear HO113; clear BK105; clear HB; have HO104 := n0_; have HO109 := n1_; have HO113 := n2_; have HO117 := n3_; have BK105 := n4_; have HB := n5_; clear n0_ n1_ n2_ n3_ n4_ n5_; (try clear hb); (try clear hb2); (try clear hk); (try clear hi); (try clear ho0)) | ((with_reducible refine gate_dst (N := 12) rfl ?_); (try (refine gate_guard (by rfl) ?_; dsimp only)); refine box_event ?hg (N := 12) ?hd (cs := #[.slice none 0 0]) (t := 26) ?hr ?_; (case hd => rfl); (case hg => rfl); (case hr => first | (go_simp; done) | (go_simp; rfl)); intro gb119 hg w28 hbox hb; have n0_ := Aside0.mk (Kd.N_below (Kd.N_elderB (KN_ HO104.out) gb119 (Nat.le_of_eq hg.symm)) hb); have n1_ := Aside0.mk (Kd.R_below (KR_ HO109.out) hb); have n2_ := Aside0.mk (Kd.R_below (KR_ HO113.out) hb); have n3_ := Aside0.mk (Kd.N_below (Kd.N_elderB (KN_ HO117.out) gb119 (Nat.le_of_eq hg.symm)) hb); have n4_ := Aside0.mk (blk_below (g := gb105) (o := .cells #[.slice Ao18 t102.length co18] 26 (0, 0)) (KB_ BK105.out) hb); have n5_ := Aside0.mk (below_step (B1_ HB.out GE105.out) hb); have n6_ := Aside0.mk (hbox); have n7_ := Aside0.mk ((by rw [hg]; exact (below_size (B1_ HB.out GE105.out)) : w.heap.size ≤ gb119)); have n8_ := Aside0.mk ((by rw [hg]; exact (below_size (B1_ HB.out GE105.out)) : w.heap.size ≤ gb119)); have n9_ := Aside0.mk ((by rw [hg]; exact Nat.ne_of_lt (blk_lt (g := gb105) (o := .cells #[.slice Ao18 t102.length co18] 26 (0, 0)) (KB_ BK105.out)) : gb105 ≠ gb119)); have n10_ := Aside0.mk ((by rw [hg]; exact Nat.ne_of_gt (blk_lt (g := gb105) (o := .cells #[.slice Ao18 t102.length co18] 26 (0, 0)) (KB_ BK105.out)) : gb119 ≠ gb105)); clear HO104; clear HO109; clear HO113; clear HO117; clear BK105; clear HB; have HO104 := n0_; have HO109 := n1_; have HO113 := n2_; have HO117 := n3_; have BK105 := n4_; have HB := n5_; have BK119 := n6_; have GW119 := n7_; have GE119 := n8_; have NB105_119 := n9_; have NB119_105 := n10_; clear n0_ n1_ n2_ n3_ n4_ n5_ n6_ n7_ n8_ n9_ n10_; clear hb hbox hg; obtain ⟨Ao29, co29, eo29⟩ := Kd.N_slice HO117.out; subst eo29; have hnb30 := NB119_105.out; have hnc30 := NB105_119.out; have hcz31_0 : w28.cell? ⟨gb119, 0, none⟩ = some (.slice none 0 0) := (blk_cell BK119.out 0).trans rfl; have hfz31_0 := blk_frozen BK119.out 0))
   (try simp only [Act.put, List.setIfInBounds_toArray, List.set_cons_zero, List.set_cons_succ])
   go_cut [79] (fun v79 wc => ∃ (kq : Nat) (x79_14 : Bool), v79 = .bool x79_14 ∧ Aside0 (z3.j0 kq (t102.length : Int) t106 t111 x79_14 t102 = some r) ∧ Aside0 (kq ≤ k) ∧ Aside0 (Kd.R (Kd.int .i64) 2 wc w.heap.size (fun _ => True) v112 t111) ∧ Aside0 (Kd.N (Kd.slice 2 (Kd.int .i64)) 29 wc w.heap.size (fun k_ => some k_ ≠ (v112 : Value).ownBlock ∧ some k_ ≠ ((.slice Ao29 t115.length co29) : Value).ownBlock ∧ k_ ≠ gb105 ∧ k_ ≠ gb119) (.slice Ao18 t102.length co18) t102) ∧ Aside0 (Kd.N (Kd.slice 2 (Kd.int .i64)) 29 wc w.heap.size (fun k_ => some k_ ≠ (v112 : Value).ownBlock ∧ some k_ ≠ ((.slice Ao18 t102.length co18) : Value).ownBlock ∧ k_ ≠ gb105 ∧ k_ ≠ gb119) (.slice Ao29 t115.length co29) t115) ∧ Aside0 (wc.heap[gb105]? = some (.cells #[(.slice Ao18 t102.length co18)] 26 (0, 0))) ∧ Aside0 (wc.heap[gb119]? = some (.cells #[(.slice Ao29 t115.length co29)] 26 (0, 0))) ∧ Aside0 (Below w.heap.size w wc))
   case first =>
    have H := HC15.out
    clear HC15
    by_cases c32 : t110 = 0
    ·rw [if_pos c32] at H
     have c32b0 : (t110 == 0) = true := beq_iff_eq.mpr c32
     have c32b1 : (t110 != 0) = false := bne_eq_false_iff_eq.mpr c32
     clear c32
     (first | rw [c32b0] | (simp only [i64_w, i32_w]; rw [c32b0]) | skip)
     replace H := Option.bind_eq_some_iff.mp H
     obtain ⟨t120, A330, H⟩ := H
     have A33 := Aside0.mk A330
     clear A330
     by_cases c34 : t120 = true
     ·subst c34
      replace H := T_ H
      by_cases c35 : t114 = 0
      ·rw [if_pos c35] at H
       have c35b0 : (t114 == 0) = true := beq_iff_eq.mpr c35
       have c35b1 : (t114 != 0) = false := bne_eq_false_iff_eq.mpr c35
       clear c35
       by_cases c36 : t118 = 0
       ·rw [if_pos c36] at H
        have c36b0 : (t118 == 0) = true := beq_iff_eq.mpr c36
        have c36b1 : (t118 != 0) = false := bne_eq_false_iff_eq.mpr c36
        clear c36
        replace H := Option.bind_eq_some_iff.mp H
        obtain ⟨t121, A370, H⟩ := H
        have A37 := Aside0.mk A370
        clear A370
        by_cases c38 : t121 = true
        ·subst c38
         replace H := T_ H
         have H' := Aside0.mk H
         clear H
         obtain ⟨Ao39, co39, eo39⟩ := Kd.R_slice HO109.out
         subst eo39
         go_wp2_with (first | (go_at_call 10; (with_reducible refine (z10.calls k _ _ t107 t106 true _ ?side1 ?side2 A33.out).mono ?_); (case side1 => refine (Kd.R_reads' (e := 2) (base := w.heap.size) (ok := fun k_ => ((((True ∧ nan21 ≤ k_) ∧ some k_ ≠ (v112 : Value).ownBlock) ∧ k_ < nan24) ∧ k_ < nan27)) (n := t107.length) (c := co39) ?_).2.2; exact (by (with_reducible repeat (first | apply Kd.R_alloc | apply Kd.R_drewN | apply Kd.R_drew)); exact (Kd.R_mono (Kd.R_far (p := ⟨gb119, 0, none⟩) (Kd.R_types HO109.out BK119.out (by decide)) (fun _ hk => hk.2) (.slice Ao29 t115.length co29)) (fun _ h_ => h_.1)))); (case side2 => exact (Kd.R_reads' HO109.out).2.1); rintro e w' ⟨rfl, ⟨nd, rfl⟩⟩; have hnb40 := NB119_105.out; have hnc40 := NB105_119.out; have hcz41_0 : w28.cell? ⟨gb119, 0, none⟩ = some (.slice none 0 0) := (blk_cell BK119.out 0).trans rfl; have hfz41_0 := blk_frozen BK119.out 0) | (go_at_call 11; (with_reducible refine (z11.calls k _ _ t115 true _ ?side1 ?side2 A37.out).mono ?_); (case side1 => refine (Kd.N_reads' (e := 29) (base := w.heap.size) (ok := fun k_ => ((some k_ ≠ (.slice Ao18 t102.length co18 : Value).ownBlock ∧ (some k_ ≠ (.slice Ao39 t107.length co39 : Value).ownBlock ∧ (some k_ ≠ (v112 : Value).ownBlock ∧ k_ ≠ gb105))) ∧ k_ ≠ gb119)) (n := t115.length) (c := co29) ?_).2.2; exact (by (with_reducible repeat (first | apply Kd.N_alloc | apply Kd.N_drewN | apply Kd.N_drew)); exact (Kd.N_mono (Kd.N_far (p := ⟨gb119, 0, none⟩) (Kd.N_mono HO117.out (fun k_ hk => (⟨hk, hk.2⟩ : _ ∧ k_ ≠ gb119))) (fun _ hk => hk.2) (.slice Ao29 t115.length co29)) (fun _ h_ => h_.1)))); (case side2 => exact (Kd.N_reads' HO117.out).2.1); rintro e w42 ⟨rfl, hb⟩; replace HO104 := Aside0.mk (Kd.N_below (by (with_reducible repeat (first | apply Kd.N_alloc | apply Kd.N_drewN | apply Kd.N_drew)); exact (Kd.N_mono (Kd.N_far (p := ⟨gb119, 0, none⟩) (Kd.N_mono HO104.out (fun k_ hk => (⟨hk, hk.2⟩ : _ ∧ k_ ≠ gb119))) (fun _ hk => hk.2) (.slice Ao29 t115.length co29)) (fun _ h_ => h_.1))) hb); replace HO109 := Aside0.mk (Kd.R_below (by (with_reducible repeat (first | apply Kd.R_alloc | apply Kd.R_drewN | apply Kd.R_drew)); exact (Kd.R_mono (Kd.R_far (p := ⟨gb119, 0, none⟩) (Kd.R_types HO109.out BK119.out (by decide)) (fun _ hk => hk.2) (.slice Ao29 t115.length co29)) (fun _ h_ => h_.1))) hb); replace HO113 := Aside0.mk (Kd.R_below (by (with_reducible repeat (first | apply Kd.R_alloc | apply Kd.R_drewN | apply Kd.R_drew)); exact (Kd.R_mono (Kd.R_far (p := ⟨gb119, 0, none⟩) (Kd.R_types HO113.out BK119.out (by decide)) (fun _ hk => hk.2) (.slice Ao29 t115.length co29)) (fun _ h_ => h_.1))) hb); replace HO117 := Aside0.mk (Kd.N_below (by (with_reducible repeat (first | apply Kd.N_alloc | apply Kd.N_drewN | apply Kd.N_drew)); exact (Kd.N_mono (Kd.N_far (p := ⟨gb119, 0, none⟩) (Kd.N_mono HO117.out (fun k_ hk => (⟨hk, hk.2⟩ : _ ∧ k_ ≠ gb119))) (fun _ hk => hk.2) (.slice Ao29 t115.length co29)) (fun _ h_ => h_.1))) hb); replace BK105 := Aside0.mk (blk_below (g := gb105) (o := .cells #[.slice Ao18 t102.length co18] 26 (0, 0)) (by (with_reducible repeat (first | refine blk_drewN ?_ _ | refine blk_drew ?_ | refine blk_alloc ?_ _)); refine blk_far ?_ NB105_119.out _; (with_reducible repeat (first | refine blk_drewN ?_ _ | refine blk_drew ?_ | refine blk_alloc ?_ _)); exact BK105.out) hb); replace BK119 := Aside0.mk (blk_below (g := gb119) (o := .cells #[.slice Ao29 t115.length co29] 26 (0, 0)) (by (with_reducible repeat (first | refine blk_drewN ?_ _ | refine blk_drew ?_ | refine blk_alloc ?_ _)); refine blk_put (cs := #[.slice none 0 0]) ?_ 0 _ rfl; (with_reducible repeat (first | refine blk_drewN ?_ _ | refine blk_drew ?_ | refine blk_alloc ?_ _)); exact BK119.out) hb); replace HB := Aside0.mk (below_step (B2_ HB.out GE105.out GE119.out) hb); (try clear hb); (try clear hb2); (try clear hk); (try clear hi); have hcz43_0 : w42.cell? ⟨gb119, 0, none⟩ = some (.slice Ao29 t115.length co29) := (blk_cell BK119.out 0).trans rfl; have hfz43_0 := blk_frozen BK119.out 0))
         go_meet
         case rel => exact ⟨_, (((t115.length : Int) != (wrap64 ((t107.length : Int) - 1)))), E_, H', ⟨by first | omega | exact Nat.le_refl _⟩, ⟨by (with_reducible repeat (first | apply Kd.R_alloc | apply Kd.R_drewN | apply Kd.R_drew)); exact Kd.R_mono HO113.out (fun _ hk => trivial)⟩, ⟨by (with_reducible repeat (first | apply Kd.N_alloc | apply Kd.N_drewN | apply Kd.N_drew)); exact Kd.N_mono HO104.out (fun _ hk => ⟨hk.1.1.2, ⟨hk.1.2, ⟨hk.1.1.1.1.2, hk.2⟩⟩⟩)⟩, ⟨by (with_reducible repeat (first | apply Kd.N_alloc | apply Kd.N_drewN | apply Kd.N_drew)); exact Kd.N_mono HO117.out (fun _ hk => ⟨hk.1.2.2.1, ⟨hk.1.1, ⟨hk.1.2.2.2, hk.2⟩⟩⟩)⟩, ⟨KB_ BK105.out⟩, ⟨KB_ BK119.out⟩, ⟨B2_ HB.out GE105.out GE119.out⟩⟩
        ·replace c38 := Bool.eq_false_iff.mpr c38
         subst c38
         replace H := N_ H
         have H' := Aside0.mk H
         clear H
         obtain ⟨Ao44, co44, eo44⟩ := Kd.R_slice HO109.out
         subst eo44
         go_wp2_with (first | (go_at_call 10; (with_reducible refine (z10.calls k _ _ t107 t106 true _ ?side1 ?side2 A33.out).mono ?_); (case side1 => refine (Kd.R_reads' (e := 2) (base := w.heap.size) (ok := fun k_ => ((((True ∧ nan21 ≤ k_) ∧ some k_ ≠ (v112 : Value).ownBlock) ∧ k_ < nan24) ∧ k_ < nan27)) (n := t107.length) (c := co44) ?_).2.2; exact (by (with_reducible repeat (first | apply Kd.R_alloc | apply Kd.R_drewN | apply Kd.R_drew)); exact (Kd.R_mono (Kd.R_far (p := ⟨gb119, 0, none⟩) (Kd.R_types HO109.out BK119.out (by decide)) (fun _ hk => hk.2) (.slice Ao29 t115.length co29)) (fun _ h_ => h_.1)))); (case side2 => exact (Kd.R_reads' HO109.out).2.1); rintro e w' ⟨rfl, ⟨nd, rfl⟩⟩; have hnb45 := NB119_105.out; have hnc45 := NB105_119.out; have hcz46_0 : w28.cell? ⟨gb119, 0, none⟩ = some (.slice none 0 0) := (blk_cell BK119.out 0).trans rfl; have hfz46_0 := blk_frozen BK119.out 0) | (go_at_call 11; (with_reducible refine (z11.calls k _ _ t115 false _ ?side1 ?side2 A37.out).mono ?_); (case side1 => refine (Kd.N_reads' (e := 29) (base := w.heap.size) (ok := fun k_ => ((some k_ ≠ (.slice Ao18 t102.length co18 : Value).ownBlock ∧ (some k_ ≠ (.slice Ao44 t107.length co44 : Value).ownBlock ∧ (some k_ ≠ (v112 : Value).ownBlock ∧ k_ ≠ gb105))) ∧ k_ ≠ gb119)) (n := t115.length) (c := co29) ?_).2.2; exact (by (with_reducible repeat (first | apply Kd.N_alloc | apply Kd.N_drewN | apply Kd.N_drew)); exact (Kd.N_mono (Kd.N_far (p := ⟨gb119, 0, none⟩) (Kd.N_mono HO117.out (fun k_ hk => (⟨hk, hk.2⟩ : _ ∧ k_ ≠ gb119))) (fun _ hk => hk.2) (.slice Ao29 t115.length co29)) (fun _ h_ => h_.1)))); (case side2 => exact (Kd.N_reads' HO117.out).2.1); rintro e w47 ⟨rfl, hb⟩; replace HO104 := Aside0.mk (Kd.N_below (by (with_reducible repeat (first | apply Kd.N_alloc | apply Kd.N_drewN | apply Kd.N_drew)); exact (Kd.N_mono (Kd.N_far (p := ⟨gb119, 0, none⟩) (Kd.N_mono HO104.out (fun k_ hk => (⟨hk, hk.2⟩ : _ ∧ k_ ≠ gb119))) (fun _ hk => hk.2) (.slice Ao29 t115.length co29)) (fun _ h_ => h_.1))) hb); replace HO109 := Aside0.mk (Kd.R_below (by (with_reducible repeat (first | apply Kd.R_alloc | apply Kd.R_drewN | apply Kd.R_drew)); exact (Kd.R_mono (Kd.R_far (p := ⟨gb119, 0, none⟩) (Kd.R_types HO109.out BK119.out (by decide)) (fun _ hk => hk.2) (.slice Ao29 t115.length co29)) (fun _ h_ => h_.1))) hb); replace HO113 := Aside0.mk (Kd.R_below (by (with_reducible repeat (first | apply Kd.R_alloc | apply Kd.R_drewN | apply Kd.R_drew)); exact (Kd.R_mono (Kd.R_far (p := ⟨gb119, 0, none⟩) (Kd.R_types HO113.out BK119.out (by decide)) (fun _ hk => hk.2) (.slice Ao29 t115.length co29)) (fun _ h_ => h_.1))) hb); replace HO117 := Aside0.mk (Kd.N_below (by (with_reducible repeat (first | apply Kd.N_alloc | apply Kd.N_drewN | apply Kd.N_drew)); exact (Kd.N_mono (Kd.N_far (p := ⟨gb119, 0, none⟩) (Kd.N_mono HO117.out (fun k_ hk => (⟨hk, hk.2⟩ : _ ∧ k_ ≠ gb119))) (fun _ hk => hk.2) (.slice Ao29 t115.length co29)) (fun _ h_ => h_.1))) hb); replace BK105 := Aside0.mk (blk_below (g := gb105) (o := .cells #[.slice Ao18 t102.length co18] 26 (0, 0)) (by (with_reducible repeat (first | refine blk_drewN ?_ _ | refine blk_drew ?_ | refine blk_alloc ?_ _)); refine blk_far ?_ NB105_119.out _; (with_reducible repeat (first | refine blk_drewN ?_ _ | refine blk_drew ?_ | refine blk_alloc ?_ _)); exact BK105.out) hb); replace BK119 := Aside0.mk (blk_below (g := gb119) (o := .cells #[.slice Ao29 t115.length co29] 26 (0, 0)) (by (with_reducible repeat (first | refine blk_drewN ?_ _ | refine blk_drew ?_ | refine blk_alloc ?_ _)); refine blk_put (cs := #[.slice none 0 0]) ?_ 0 _ rfl; (with_reducible repeat (first | refine blk_drewN ?_ _ | refine blk_drew ?_ | refine blk_alloc ?_ _)); exact BK119.out) hb); replace HB := Aside0.mk (below_step (B2_ HB.out GE105.out GE119.out) hb); (try clear hb); (try clear hb2); (try clear hk); (try clear hi)))
         go_meet
         case rel => exact ⟨_, (true), E_, H', ⟨by first | omega | exact Nat.le_refl _⟩, ⟨by (with_reducible repeat (first | apply Kd.R_alloc | apply Kd.R_drewN | apply Kd.R_drew)); exact Kd.R_mono HO113.out (fun _ hk => trivial)⟩, ⟨by (with_reducible repeat (first | apply Kd.N_alloc | apply Kd.N_drewN | apply Kd.N_drew)); exact Kd.N_mono HO104.out (fun _ hk => ⟨hk.1.1.2, ⟨hk.1.2, ⟨hk.1.1.1.1.2, hk.2⟩⟩⟩)⟩, ⟨by (with_reducible repeat (first | apply Kd.N_alloc | apply Kd.N_drewN | apply Kd.N_drew)); exact Kd.N_mono HO117.out (fun _ hk => ⟨hk.1.2.2.1, ⟨hk.1.1, ⟨hk.1.2.2.2, hk.2⟩⟩⟩)⟩, ⟨KB_ BK105.out⟩, ⟨KB_ BK119.out⟩, ⟨B2_ HB.out GE105.out GE119.out⟩⟩
       ·rw [if_neg c36] at H
        have c36b0 : (t118 == 0) = false := beq_eq_false_iff_ne.mpr c36
        have c36b1 : (t118 != 0) = true := bne_iff_ne.mpr c36
        have H' := Aside0.mk H
        clear H
        obtain ⟨Ao48, co48, eo48⟩ := Kd.R_slice HO109.out
        subst eo48
        go_wp2_with (first | (go_at_call 10; (with_reducible refine (z10.calls k _ _ t107 t106 true _ ?side1 ?side2 A33.out).mono ?_); (case side1 => refine (Kd.R_reads' (e := 2) (base := w.heap.size) (ok := fun k_ => ((((True ∧ nan21 ≤ k_) ∧ some k_ ≠ (v112 : Value).ownBlock) ∧ k_ < nan24) ∧ k_ < nan27)) (n := t107.length) (c := co48) ?_).2.2; exact (by (with_reducible repeat (first | apply Kd.R_alloc | apply Kd.R_drewN | apply Kd.R_drew)); exact (Kd.R_mono (Kd.R_far (p := ⟨gb119, 0, none⟩) (Kd.R_types HO109.out BK119.out (by decide)) (fun _ hk => hk.2) (.slice Ao29 t115.length co29)) (fun _ h_ => h_.1)))); (case side2 => exact (Kd.R_reads' HO109.out).2.1); rintro e w' ⟨rfl, ⟨nd, rfl⟩⟩))
        go_meet
        case rel => exact ⟨_, (true), E_, H', ⟨by first | omega | exact Nat.le_refl _⟩, ⟨by (with_reducible repeat (first | apply Kd.R_alloc | apply Kd.R_drewN | apply Kd.R_drew)); exact Kd.R_mono (Kd.R_far (p := ⟨gb119, 0, none⟩) (Kd.R_types HO113.out BK119.out (by decide)) (fun _ hk => hk.2) (.slice Ao29 t115.length co29)) (fun _ hk => trivial)⟩, ⟨by (with_reducible repeat (first | apply Kd.N_alloc | apply Kd.N_drewN | apply Kd.N_drew)); exact Kd.N_mono (Kd.N_far (p := ⟨gb119, 0, none⟩) (Kd.N_mono HO104.out (fun k_ hk => (⟨hk, hk.2⟩ : _ ∧ k_ ≠ gb119))) (fun _ hk => hk.2) (.slice Ao29 t115.length co29)) (fun _ hk => ⟨hk.1.1.1.2, ⟨hk.1.1.2, ⟨hk.1.1.1.1.1.2, hk.1.2⟩⟩⟩)⟩, ⟨by (with_reducible repeat (first | apply Kd.N_alloc | apply Kd.N_drewN | apply Kd.N_drew)); exact Kd.N_mono (Kd.N_far (p := ⟨gb119, 0, none⟩) (Kd.N_mono HO117.out (fun k_ hk => (⟨hk, hk.2⟩ : _ ∧ k_ ≠ gb119))) (fun _ hk => hk.2) (.slice Ao29 t115.length co29)) (fun _ hk => ⟨hk.1.1.2.2.1, ⟨hk.1.1.1, ⟨hk.1.1.2.2.2, hk.1.2⟩⟩⟩)⟩, ⟨by (with_reducible repeat (first | refine blk_drewN ?_ _ | refine blk_drew ?_ | refine blk_alloc ?_ _)); refine blk_far ?_ NB105_119.out _; (with_reducible repeat (first | refine blk_drewN ?_ _ | refine blk_drew ?_ | refine blk_alloc ?_ _)); exact BK105.out⟩, ⟨by (with_reducible repeat (first | refine blk_drewN ?_ _ | refine blk_drew ?_ | refine blk_alloc ?_ _)); refine blk_put (cs := #[.slice none 0 0]) ?_ 0 _ rfl; (with_reducible repeat (first | refine blk_drewN ?_ _ | refine blk_drew ?_ | refine blk_alloc ?_ _)); exact BK119.out⟩, ⟨B2_ HB.out GE105.out GE119.out⟩⟩
      ·rw [if_neg c35] at H
       have c35b0 : (t114 == 0) = false := beq_eq_false_iff_ne.mpr c35
       have c35b1 : (t114 != 0) = true := bne_iff_ne.mpr c35
       have H' := Aside0.mk H
       clear H
       obtain ⟨Ao49, co49, eo49⟩ := Kd.R_slice HO109.out
       subst eo49
       go_wp2_with (first | (go_at_call 10; (with_reducible refine (z10.calls k _ _ t107 t106 true _ ?side1 ?side2 A33.out).mono ?_); (case side1 => refine (Kd.R_reads' (e := 2) (base := w.heap.size) (ok := fun k_ => ((((True ∧ nan21 ≤ k_) ∧ some k_ ≠ (v112 : Value).ownBlock) ∧ k_ < nan24) ∧ k_ < nan27)) (n := t107.length) (c := co49) ?_).2.2; exact (by (with_reducible repeat (first | apply Kd.R_alloc | apply Kd.R_drewN | apply Kd.R_drew)); exact (Kd.R_mono (Kd.R_far (p := ⟨gb119, 0, none⟩) (Kd.R_types HO109.out BK119.out (by decide)) (fun _ hk => hk.2) (.slice Ao29 t115.length co29)) (fun _ h_ => h_.1)))); (case side2 => exact (Kd.R_reads' HO109.out).2.1); rintro e w' ⟨rfl, ⟨nd, rfl⟩⟩))
       go_meet
       case rel => exact ⟨_, (true), E_, H', ⟨by first | omega | exact Nat.le_refl _⟩, ⟨by (with_reducible repeat (first | apply Kd.R_alloc | apply Kd.R_drewN | apply Kd.R_drew)); exact Kd.R_mono (Kd.R_far (p := ⟨gb119, 0, none⟩) (Kd.R_types HO113.out BK119.out (by decide)) (fun _ hk => hk.2) (.slice Ao29 t115.length co29)) (fun _ hk => trivial)⟩, ⟨by (with_reducible repeat (first | apply Kd.N_alloc | apply Kd.N_drewN | apply Kd.N_drew)); exact Kd.N_mono (Kd.N_far (p := ⟨gb119, 0, none⟩) (Kd.N_mono HO104.out (fun k_ hk => (⟨hk, hk.2⟩ : _ ∧ k_ ≠ gb119))) (fun _ hk => hk.2) (.slice Ao29 t115.length co29)) (fun _ hk => ⟨hk.1.1.1.2, ⟨hk.1.1.2, ⟨hk.1.1.1.1.1.2, hk.1.2⟩⟩⟩)⟩, ⟨by (with_reducible repeat (first | apply Kd.N_alloc | apply Kd.N_drewN | apply Kd.N_drew)); exact Kd.N_mono (Kd.N_far (p := ⟨gb119, 0, none⟩) (Kd.N_mono HO117.out (fun k_ hk => (⟨hk, hk.2⟩ : _ ∧ k_ ≠ gb119))) (fun _ hk => hk.2) (.slice Ao29 t115.length co29)) (fun _ hk => ⟨hk.1.1.2.2.1, ⟨hk.1.1.1, ⟨hk.1.1.2.2.2, hk.1.2⟩⟩⟩)⟩, ⟨by (with_reducible repeat (first | refine blk_drewN ?_ _ | refine blk_drew ?_ | refine blk_alloc ?_ _)); refine blk_far ?_ NB105_119.out _; (with_reducible repeat (first | refine blk_drewN ?_ _ | refine blk_drew ?_ | refine blk_alloc ?_ _)); exact BK105.out⟩, ⟨by (with_reducible repeat (first | refine blk_drewN ?_ _ | refine blk_drew ?_ | refine blk_alloc ?_ _)); refine blk_put (cs := #[.slice none 0 0]) ?_ 0 _ rfl; (with_reducible repeat (first | refine blk_drewN ?_ _ | refine blk_drew ?_ | refine blk_alloc ?_ _)); exact BK119.out⟩, ⟨B2_ HB.out GE105.out GE119.out⟩⟩
     ·replace c34 := Bool.eq_false_iff.mpr c34
      subst c34
      replace H := N_ H
      have H' := Aside0.mk H
      clear H
      obtain ⟨Ao50, co50, eo50⟩ := Kd.R_slice HO109.out
      subst eo50
      go_wp2_with (first | (go_at_call 10; (with_reducible refine (z10.calls k _ _ t107 t106 false _ ?side1 ?side2 A33.out).mono ?_); (case side1 => refine (Kd.R_reads' (e := 2) (base := w.heap.size) (ok := fun k_ => ((((True ∧ nan21 ≤ k_) ∧ some k_ ≠ (v112 : Value).ownBlock) ∧ k_ < nan24) ∧ k_ < nan27)) (n := t107.length) (c := co50) ?_).2.2; exact (by (with_reducible repeat (first | apply Kd.R_alloc | apply Kd.R_drewN | apply Kd.R_drew)); exact (Kd.R_mono (Kd.R_far (p := ⟨gb119, 0, none⟩) (Kd.R_types HO109.out BK119.out (by decide)) (fun _ hk => hk.2) (.slice Ao29 t115.length co29)) (fun _ h_ => h_.1)))); (case side2 => exact (Kd.R_reads' HO109.out).2.1); rintro e w' ⟨rfl, ⟨nd, rfl⟩⟩))
      go_meet
      case rel => exact ⟨_, (true), E_, H', ⟨by first | omega | exact Nat.le_refl _⟩, ⟨by (with_reducible repeat (first | apply Kd.R_alloc | apply Kd.R_drewN | apply Kd.R_drew)); exact Kd.R_mono (Kd.R_far (p := ⟨gb119, 0, none⟩) (Kd.R_types HO113.out BK119.out (by decide)) (fun _ hk => hk.2) (.slice Ao29 t115.length co29)) (fun _ hk => trivial)⟩, ⟨by (with_reducible repeat (first | apply Kd.N_alloc | apply Kd.N_drewN | apply Kd.N_drew)); exact Kd.N_mono (Kd.N_far (p := ⟨gb119, 0, none⟩) (Kd.N_mono HO104.out (fun k_ hk => (⟨hk, hk.2⟩ : _ ∧ k_ ≠ gb119))) (fun _ hk => hk.2) (.slice Ao29 t115.length co29)) (fun _ hk => ⟨hk.1.1.1.2, ⟨hk.1.1.2, ⟨hk.1.1.1.1.1.2, hk.1.2⟩⟩⟩)⟩, ⟨by (with_reducible repeat (first | apply Kd.N_alloc | apply Kd.N_drewN | apply Kd.N_drew)); exact Kd.N_mono (Kd.N_far (p := ⟨gb119, 0, none⟩) (Kd.N_mono HO117.out (fun k_ hk => (⟨hk, hk.2⟩ : _ ∧ k_ ≠ gb119))) (fun _ hk => hk.2) (.slice Ao29 t115.length co29)) (fun _ hk => ⟨hk.1.1.2.2.1, ⟨hk.1.1.1, ⟨hk.1.1.2.2.2, hk.1.2⟩⟩⟩)⟩, ⟨by (with_reducible repeat (first | refine blk_drewN ?_ _ | refine blk_drew ?_ | refine blk_alloc ?_ _)); refine blk_far ?_ NB105_119.out _; (with_reducible repeat (first | refine blk_drewN ?_ _ | refine blk_drew ?_ | refine blk_alloc ?_ _)); exact BK105.out⟩, ⟨by (with_reducible repeat (first | refine blk_drewN ?_ _ | refine blk_drew ?_ | refine blk_alloc ?_ _)); refine blk_put (cs := #[.slice none 0 0]) ?_ 0 _ rfl; (with_reducible repeat (first | refine blk_drewN ?_ _ | refine blk_drew ?_ | refine blk_alloc ?_ _)); exact BK119.out⟩, ⟨B2_ HB.out GE105.out GE119.out⟩⟩
    ·rw [if_neg c32] at H
     have c32b0 : (t110 == 0) = false := beq_eq_false_iff_ne.mpr c32
     have c32b1 : (t110 != 0) = true := bne_iff_ne.mpr c32
     (first | rw [c32b0] | (simp only [i64_w, i32_w]; rw [c32b0]) | skip)
     have H' := Aside0.mk H
     clear H
     go_wp2
     go_meet
     case rel => exact ⟨_, (true), E_, H', ⟨by first | omega | exact Nat.le_refl _⟩, ⟨by (with_reducible repeat (first | apply Kd.R_alloc | apply Kd.R_drewN | apply Kd.R_drew)); exact Kd.R_mono (Kd.R_far (p := ⟨gb119, 0, none⟩) (Kd.R_types HO113.out BK119.out (by decide)) (fun _ hk => hk.2) (.slice Ao29 t115.length co29)) (fun _ hk => trivial)⟩, ⟨by (with_reducible repeat (first | apply Kd.N_alloc | apply Kd.N_drewN | apply Kd.N_drew)); exact Kd.N_mono (Kd.N_far (p := ⟨gb119, 0, none⟩) (Kd.N_mono HO104.out (fun k_ hk => (⟨hk, hk.2⟩ : _ ∧ k_ ≠ gb119))) (fun _ hk => hk.2) (.slice Ao29 t115.length co29)) (fun _ hk => ⟨hk.1.1.1.2, ⟨hk.1.1.2, ⟨hk.1.1.1.1.1.2, hk.1.2⟩⟩⟩)⟩, ⟨by (with_reducible repeat (first | apply Kd.N_alloc | apply Kd.N_drewN | apply Kd.N_drew)); exact Kd.N_mono (Kd.N_far (p := ⟨gb119, 0, none⟩) (Kd.N_mono HO117.out (fun k_ hk => (⟨hk, hk.2⟩ : _ ∧ k_ ≠ gb119))) (fun _ hk => hk.2) (.slice Ao29 t115.length co29)) (fun _ hk => ⟨hk.1.1.2.2.1, ⟨hk.1.1.1, ⟨hk.1.1.2.2.2, hk.1.2⟩⟩⟩)⟩, ⟨by (with_reducible repeat (first | refine blk_drewN ?_ _ | refine blk_drew ?_ | refine blk_alloc ?_ _)); refine blk_far ?_ NB105_119.out _; (with_reducible repeat (first | refine blk_drewN ?_ _ | refine blk_drew ?_ | refine blk_alloc ?_ _)); exact BK105.out⟩, ⟨by (with_reducible repeat (first | refine blk_drewN ?_ _ | refine blk_drew ?_ | refine blk_alloc ?_ _)); refine blk_put (cs := #[.slice none 0 0]) ?_ 0 _ rfl; (with_reducible repeat (first | refine blk_drewN ?_ _ | refine blk_drew ?_ | refine blk_alloc ?_ _)); exact BK119.out⟩, ⟨B2_ HB.out GE105.out GE119.out⟩⟩
   case rest =>
    clear HC15
    (try clear c1);(try clear p2);(try clear c3);(try clear c4);(try clear c5);(try clear c6);(try clear c6b0);(try clear c6b1);(try clear c6b2);(try clear p6);(try clear c7);(try clear c8);(try clear c9);(try clear c30);(try clear c32);(try clear c32b0);(try clear c32b1);(try clear c34);(try clear c35);(try clear c35b0);(try clear c35b1);(try clear c36);(try clear c36b0);(try clear c36b1);(try clear c38);(try clear c40);(try clear c45);(try clear hcz10_0);(try clear hcz19_0);(try clear hcz22_0);(try clear hcz25_0);(try clear hcz31_0);(try clear hcz41_0);(try clear hcz43_0);(try clear hcz46_0);(try clear hfz10_0);(try clear hfz19_0);(try clear hfz22_0);(try clear hfz25_0);(try clear hfz31_0);(try clear hfz41_0);(try clear hfz43_0);(try clear hfz46_0)
    obtain ⟨kq, x79_14, rfl, HA, HJ14, HO_10, HO_106000, HO_120000, BK105, BK119, HB⟩ := hcut
    cases kq with
    | zero => exact absurd HA.out (by simp [z3.j0])
    | succ kj14 =>
     have H := HA.out
     clear HA
     simp only [z3.j0] at H
     by_cases c51 : x79_14 = true
     ·subst c51
      replace H := T_ H
      exact absurd (H.trans (congrArg some ht_)) (by simp)
     ·replace c51 := Bool.eq_false_iff.mpr c51
      subst c51
      replace H := N_ H
      have HC52 := Aside0.mk H
      clear H
      go_upto_region 13 with (fail)
      go_cut [107] (fun v107 wc => ∃ (kq : Nat) (x107_51 : Bool), v107 = .bool x107_51 ∧ Aside0 (z3.j1 kq (t102.length : Int) t106 t111 x107_51 t102 = some r) ∧ Aside0 (kq ≤ kj14) ∧ Aside0 (Kd.R (Kd.int .i64) 2 wc w.heap.size (fun _ => True) v112 t111) ∧ Aside0 (Kd.N (Kd.slice 2 (Kd.int .i64)) 29 wc w.heap.size (fun k_ => some k_ ≠ (v112 : Value).ownBlock ∧ some k_ ≠ ((.slice Ao29 t115.length co29) : Value).ownBlock ∧ k_ ≠ gb105 ∧ k_ ≠ gb119) (.slice Ao18 t102.length co18) t102) ∧ Aside0 (Kd.N (Kd.slice 2 (Kd.int .i64)) 29 wc w.heap.size (fun k_ => some k_ ≠ (v112 : Value).ownBlock ∧ some k_ ≠ ((.slice Ao18 t102.length co18) : Value).ownBlock ∧ k_ ≠ gb105 ∧ k_ ≠ gb119) (.slice Ao29 t115.length co29) t115) ∧ Aside0 (wc.heap[gb105]? = some (.cells #[(.slice Ao18 t102.length co18)] 26 (0, 0))) ∧ Aside0 (wc.heap[gb119]? = some (.cells #[(.slice Ao29 t115.length co29)] 26 (0, 0))) ∧ Aside0 (Below w.heap.size w wc))
      case first =>
       have H := HC52.out
       clear HC52
       have c53 := O1_ H
       replace H := O2_ H
       have c53b0 := decide_eq_true c53
       clear c53
       (first | rw [c53b0] | (simp only [i64_w, i32_w]; rw [c53b0]) | skip)
       have c54 := O1_ H
       replace H := O2_ H
       have c54b0 := decide_eq_true c54
       clear c54
       by_cases c55 : (t111.length : Int) = ((rd_ListInt t102 t106).length : Int)
       ·rw [if_pos c55] at H
        have c55b0 : ((t111.length : Int) == ((rd_ListInt t102 t106).length : Int)) = true := beq_iff_eq.mpr c55
        have c55b1 : ((t111.length : Int) != ((rd_ListInt t102 t106).length : Int)) = false := bne_eq_false_iff_eq.mpr c55
        have c55b2 : (t111.length == (rd_ListInt t102 t106).length) = true := by first | simpa using c55 | (simp at c55 ⊢; omega)
        clear c55
        by_cases c56 : (t111.length : Int) = 0
        ·rw [if_pos c56] at H
         have c56b0 : ((t111.length : Int) == 0) = true := beq_iff_eq.mpr c56
         have c56b1 : ((t111.length : Int) != 0) = false := bne_eq_false_iff_eq.mpr c56
         clear c56
         have H' := Aside0.mk H
         clear H
         obtain ⟨Ao57, co57, eo57⟩ := Kd.R_slice HO_10.out
         subst eo57
         have hnb58 := NB105_119.out
         have hnc58 := NB119_105.out
         have hcz59_0 : wc.cell? ⟨gb105, 0, none⟩ = some (.slice Ao18 t102.length co18) := (blk_cell BK105.out 0).trans rfl
         have hfz59_0 := blk_frozen BK105.out 0
         have p122 : 0 ≤ (t106 : Int) := D_
         have q122 : t106 < (t102.length : Int) := D_
         obtain ⟨ad122, A122_0, c122_0, e122, hx122_0, hl122_0, hi122_0⟩ := at_ListInt (Kd.N_reads' HO_106000.out).2.2 t106 p122 q122
         cases e122
         obtain ⟨ce122, hce122, hMe122, hcc122⟩ := Kd.N_get HO_106000.out [] t106 p122 (by first | exact q122 | exact D_ | (have e_ := (Kd.N_reads' HO_106000.out).1; omega))
         obtain ⟨ua122_0, uc122_0, rfl, ul122_0, ge122_0⟩ := Kd.FK_slice_open hMe122
         have hv122_0 := hcc122 0 _ rfl
         rw [Nat.add_zero, show ((Kd.slice 2 (Kd.int .i64))).sz = 1 from rfl, Nat.mul_one] at hv122_0
         replace hv122_0 := Option.some.inj (hv122_0.symm.trans hx122_0)
         injection hv122_0 with hva_ hvn_ hvc_
         rw [hva_] at ge122_0
         rw [hvc_] at ul122_0
         have HL122_0 := Aside0.mk (show Kd.V (Kd.int .i64) 2 _ w.heap.size _ _ (rd_ListInt t102 t106) from Kd.V_mk ul122_0 ge122_0)
         clear hva_ hvn_ hvc_ ge122_0 ul122_0
         clear hcc122 hce122
         have HR122_0 := Aside0.mk hi122_0
         have HC122_0 := Aside0.mk hl122_0
         clear hi122_0 hl122_0
         replace p122 := eq_true p122
         replace q122 := eq_true q122
         have p123 : 0 ≤ (t106 : Int) := D_
         have q123 : t106 < (t102.length : Int) := D_
         obtain ⟨ad123, A123_0, c123_0, e123, hx123_0, hl123_0, hi123_0⟩ := at_ListInt (Kd.N_reads' HO_106000.out).2.2 t106 p123 q123
         obtain rfl : ad122 = ad123 := (by injection e123)
         obtain ⟨ce123, hce123, hMe123, hcc123⟩ := Kd.N_get HO_106000.out [] t106 p123 (by first | exact q123 | exact D_ | (have e_ := (Kd.N_reads' HO_106000.out).1; omega))
         obtain ⟨ua123_0, uc123_0, rfl, ul123_0, ge123_0⟩ := Kd.FK_slice_open hMe123
         have hv123_0 := hcc123 0 _ rfl
         rw [Nat.add_zero, show ((Kd.slice 2 (Kd.int .i64))).sz = 1 from rfl, Nat.mul_one] at hv123_0
         replace hv123_0 := Option.some.inj (hv123_0.symm.trans hx123_0)
         injection hv123_0 with hva_ hvn_ hvc_
         rw [hva_] at ge123_0
         rw [hvc_] at ul123_0
         have HL123_0 := Aside0.mk (show Kd.V (Kd.int .i64) 2 _ w.heap.size _ _ (rd_ListInt t102 t106) from Kd.V_mk ul123_0 ge123_0)
         clear hva_ hvn_ hvc_ ge123_0 ul123_0
         clear hcc123 hce123
         have HR123_0 := Aside0.mk hi123_0
         have HC123_0 := Aside0.mk hl123_0
         clear hi123_0 hl123_0
         replace p123 := eq_true p123
         replace q123 := eq_true q123
         have ea_ := Option.some.inj (hx122_0.symm.trans hx123_0)
         injection ea_ with ea_ en_ ec_
         subst ea_
         subst ec_
         clear en_
         go_wp2
         go_meet
         case rel => exact ⟨_, ((((rd_ListInt t102 t106).length : Int) != 1)), E_, H', ⟨by have := HJ14.out; first | omega | exact Nat.le_refl _⟩, ⟨KR_ HO_10.out⟩, ⟨KN_ HO_106000.out⟩, ⟨KN_ HO_120000.out⟩, ⟨KB_ BK105.out⟩, ⟨KB_ BK119.out⟩, ⟨B2_ HB.out GE105.out GE119.out⟩⟩
        ·rw [if_neg c56] at H
         have c56b0 : ((t111.length : Int) == 0) = false := beq_eq_false_iff_ne.mpr c56
         have c56b1 : ((t111.length : Int) != 0) = true := bne_iff_ne.mpr c56
         have c56b2 : ¬ (t111 = []) := fun h_ => c56 (by rw [h_]; rfl)
         have H' := Aside0.mk H
         clear H
         obtain ⟨Ao60, co60, eo60⟩ := Kd.R_slice HO_10.out
         subst eo60
         have hnb61 := NB105_119.out
         have hnc61 := NB119_105.out
         have hcz62_0 : wc.cell? ⟨gb105, 0, none⟩ = some (.slice Ao18 t102.length co18) := (blk_cell BK105.out 0).trans rfl
         have hfz62_0 := blk_frozen BK105.out 0
         have p122 : 0 ≤ (t106 : Int) := D_
         have q122 : t106 < (t102.length : Int) := D_
         obtain ⟨ad122, A122_0, c122_0, e122, hx122_0, hl122_0, hi122_0⟩ := at_ListInt (Kd.N_reads' HO_106000.out).2.2 t106 p122 q122
         cases e122
         obtain ⟨ce122, hce122, hMe122, hcc122⟩ := Kd.N_get HO_106000.out [] t106 p122 (by first | exact q122 | exact D_ | (have e_ := (Kd.N_reads' HO_106000.out).1; omega))
         obtain ⟨ua122_0, uc122_0, rfl, ul122_0, ge122_0⟩ := Kd.FK_slice_open hMe122
         have hv122_0 := hcc122 0 _ rfl
         rw [Nat.add_zero, show ((Kd.slice 2 (Kd.int .i64))).sz = 1 from rfl, Nat.mul_one] at hv122_0
         replace hv122_0 := Option.some.inj (hv122_0.symm.trans hx122_0)
         injection hv122_0 with hva_ hvn_ hvc_
         rw [hva_] at ge122_0
         rw [hvc_] at ul122_0
         have HL122_0 := Aside0.mk (show Kd.V (Kd.int .i64) 2 _ w.heap.size _ _ (rd_ListInt t102 t106) from Kd.V_mk ul122_0 ge122_0)
         clear hva_ hvn_ hvc_ ge122_0 ul122_0
         clear hcc122 hce122
         have HR122_0 := Aside0.mk hi122_0
         have HC122_0 := Aside0.mk hl122_0
         clear hi122_0 hl122_0
         replace p122 := eq_true p122
         replace q122 := eq_true q122
         go_wp2
         go_meet
         case rel => exact ⟨_, (false), E_, H', ⟨by have := HJ14.out; first | omega | exact Nat.le_refl _⟩, ⟨KR_ HO_10.out⟩, ⟨KN_ HO_106000.out⟩, ⟨KN_ HO_120000.out⟩, ⟨KB_ BK105.out⟩, ⟨KB_ BK119.out⟩, ⟨B2_ HB.out GE105.out GE119.out⟩⟩
       ·rw [if_neg c55] at H
        have c55b0 : ((t111.length : Int) == ((rd_ListInt t102 t106).length : Int)) = false := beq_eq_false_iff_ne.mpr c55
        have c55b1 : ((t111.length : Int) != ((rd_ListInt t102 t106).length : Int)) = true := bne_iff_ne.mpr c55
        have c55b2 : (t111.length == (rd_ListInt t102 t106).length) = false := by first | simpa using c55 | (simp at c55 ⊢; omega)
        by_cases c63 : (t111.length : Int) = 0
        ·rw [if_pos c63] at H
         have c63b0 : ((t111.length : Int) == 0) = true := beq_iff_eq.mpr c63
         have c63b1 : ((t111.length : Int) != 0) = false := bne_eq_false_iff_eq.mpr c63
         clear c63
         have H' := Aside0.mk H
         clear H
         obtain ⟨Ao64, co64, eo64⟩ := Kd.R_slice HO_10.out
         subst eo64
         have hnb65 := NB105_119.out
         have hnc65 := NB119_105.out
         have hcz66_0 : wc.cell? ⟨gb105, 0, none⟩ = some (.slice Ao18 t102.length co18) := (blk_cell BK105.out 0).trans rfl
         have hfz66_0 := blk_frozen BK105.out 0
         have p122 : 0 ≤ (t106 : Int) := D_
         have q122 : t106 < (t102.length : Int) := D_
         obtain ⟨ad122, A122_0, c122_0, e122, hx122_0, hl122_0, hi122_0⟩ := at_ListInt (Kd.N_reads' HO_106000.out).2.2 t106 p122 q122
         cases e122
         obtain ⟨ce122, hce122, hMe122, hcc122⟩ := Kd.N_get HO_106000.out [] t106 p122 (by first | exact q122 | exact D_ | (have e_ := (Kd.N_reads' HO_106000.out).1; omega))
         obtain ⟨ua122_0, uc122_0, rfl, ul122_0, ge122_0⟩ := Kd.FK_slice_open hMe122
         have hv122_0 := hcc122 0 _ rfl
         rw [Nat.add_zero, show ((Kd.slice 2 (Kd.int .i64))).sz = 1 from rfl, Nat.mul_one] at hv122_0
         replace hv122_0 := Option.some.inj (hv122_0.symm.trans hx122_0)
         injection hv122_0 with hva_ hvn_ hvc_
         rw [hva_] at ge122_0
         rw [hvc_] at ul122_0
         have HL122_0 := Aside0.mk (show Kd.V (Kd.int .i64) 2 _ w.heap.size _ _ (rd_ListInt t102 t106) from Kd.V_mk ul122_0 ge122_0)
         clear hva_ hvn_ hvc_ ge122_0 ul122_0
         clear hcc122 hce122
         have HR122_0 := Aside0.mk hi122_0
         have HC122_0 := Aside0.mk hl122_0
         clear hi122_0 hl122_0
         replace p122 := eq_true p122
         replace q122 := eq_true q122
         have p124 : 0 ≤ (t106 : Int) := D_
         have q124 : t106 < (t102.length : Int) := D_
         obtain ⟨ad124, A124_0, c124_0, e124, hx124_0, hl124_0, hi124_0⟩ := at_ListInt (Kd.N_reads' HO_106000.out).2.2 t106 p124 q124
         obtain rfl : ad122 = ad124 := (by injection e124)
         obtain ⟨ce124, hce124, hMe124, hcc124⟩ := Kd.N_get HO_106000.out [] t106 p124 (by first | exact q124 | exact D_ | (have e_ := (Kd.N_reads' HO_106000.out).1; omega))
         obtain ⟨ua124_0, uc124_0, rfl, ul124_0, ge124_0⟩ := Kd.FK_slice_open hMe124
         have hv124_0 := hcc124 0 _ rfl
         rw [Nat.add_zero, show ((Kd.slice 2 (Kd.int .i64))).sz = 1 from rfl, Nat.mul_one] at hv124_0
         replace hv124_0 := Option.some.inj (hv124_0.symm.trans hx124_0)
         injection hv124_0 with hva_ hvn_ hvc_
         rw [hva_] at ge124_0
         rw [hvc_] at ul124_0
         have HL124_0 := Aside0.mk (show Kd.V (Kd.int .i64) 2 _ w.heap.size _ _ (rd_ListInt t102 t106) from Kd.V_mk ul124_0 ge124_0)
         clear hva_ hvn_ hvc_ ge124_0 ul124_0
         clear hcc124 hce124
         have HR124_0 := Aside0.mk hi124_0
         have HC124_0 := Aside0.mk hl124_0
         clear hi124_0 hl124_0
         replace p124 := eq_true p124
         replace q124 := eq_true q124
         have ea_ := Option.some.inj (hx122_0.symm.trans hx124_0)
         injection ea_ with ea_ en_ ec_
         subst ea_
         subst ec_
         clear en_
         go_wp2
         go_meet
         case rel => exact ⟨_, ((((rd_ListInt t102 t106).length : Int) != 1)), E_, H', ⟨by have := HJ14.out; first | omega | exact Nat.le_refl _⟩, ⟨KR_ HO_10.out⟩, ⟨KN_ HO_106000.out⟩, ⟨KN_ HO_120000.out⟩, ⟨KB_ BK105.out⟩, ⟨KB_ BK119.out⟩, ⟨B2_ HB.out GE105.out GE119.out⟩⟩
        ·rw [if_neg c63] at H
         have c63b0 : ((t111.length : Int) == 0) = false := beq_eq_false_iff_ne.mpr c63
         have c63b1 : ((t111.length : Int) != 0) = true := bne_iff_ne.mpr c63
         have c63b2 : ¬ (t111 = []) := fun h_ => c63 (by rw [h_]; rfl)
         have H' := Aside0.mk H
         clear H
         obtain ⟨Ao67, co67, eo67⟩ := Kd.R_slice HO_10.out
         subst eo67
         have hnb68 := NB105_119.out
         have hnc68 := NB119_105.out
         have hcz69_0 : wc.cell? ⟨gb105, 0, none⟩ = some (.slice Ao18 t102.length co18) := (blk_cell BK105.out 0).trans rfl
         have hfz69_0 := blk_frozen BK105.out 0
         have p122 : 0 ≤ (t106 : Int) := D_
         have q122 : t106 < (t102.length : Int) := D_
         obtain ⟨ad122, A122_0, c122_0, e122, hx122_0, hl122_0, hi122_0⟩ := at_ListInt (Kd.N_reads' HO_106000.out).2.2 t106 p122 q122
         cases e122
         obtain ⟨ce122, hce122, hMe122, hcc122⟩ := Kd.N_get HO_106000.out [] t106 p122 (by first | exact q122 | exact D_ | (have e_ := (Kd.N_reads' HO_106000.out).1; omega))
         obtain ⟨ua122_0, uc122_0, rfl, ul122_0, ge122_0⟩ := Kd.FK_slice_open hMe122
         have hv122_0 := hcc122 0 _ rfl
         rw [Nat.add_zero, show ((Kd.slice 2 (Kd.int .i64))).sz = 1 from rfl, Nat.mul_one] at hv122_0
         replace hv122_0 := Option.some.inj (hv122_0.symm.trans hx122_0)
         injection hv122_0 with hva_ hvn_ hvc_
         rw [hva_] at ge122_0
         rw [hvc_] at ul122_0
         have HL122_0 := Aside0.mk (show Kd.V (Kd.int .i64) 2 _ w.heap.size _ _ (rd_ListInt t102 t106) from Kd.V_mk ul122_0 ge122_0)
         clear hva_ hvn_ hvc_ ge122_0 ul122_0
         clear hcc122 hce122
         have HR122_0 := Aside0.mk hi122_0
         have HC122_0 := Aside0.mk hl122_0
         clear hi122_0 hl122_0
         replace p122 := eq_true p122
         replace q122 := eq_true q122
         go_wp2
         go_meet
         case rel => exact ⟨_, (true), E_, H', ⟨by have := HJ14.out; first | omega | exact Nat.le_refl _⟩, ⟨KR_ HO_10.out⟩, ⟨KN_ HO_106000.out⟩, ⟨KN_ HO_120000.out⟩, ⟨KB_ BK105.out⟩, ⟨KB_ BK119.out⟩, ⟨B2_ HB.out GE105.out GE119.out⟩⟩
      case rest =>
       clear HC52
       (try clear c1);(try clear p1);(try clear q1);(try clear hx1);(try clear p2);(try clear c3);(try clear c4);(try clear c5);(try clear c6);(try clear c6b0);(try clear c6b1);(try clear c6b2);(try clear p6);(try clear c7);(try clear c8);(try clear c9);(try clear c12);(try clear p12);(try clear q12);(try clear hx12);(try clear c30);(try clear c32);(try clear c32b0);(try clear c32b1);(try clear c34);(try clear c35);(try clear c35b0);(try clear c35b1);(try clear c36);(try clear c36b0);(try clear c36b1);(try clear c38);(try clear c40);(try clear c45);(try clear c51);(try clear c53);(try clear c53b0);(try clear c54);(try clear c54b0);(try clear c55);(try clear c55b0);(try clear c55b1);(try clear c55b2);(try clear c56);(try clear c56b0);(try clear c56b1);(try clear c56b2);(try clear c58);(try clear c61);(try clear c63);(try clear c63b0);(try clear c63b1);(try clear c63b2);(try clear p64);(try clear c65)
       (try clear c68);(try clear hcz10_0);(try clear hcz19_0);(try clear hcz22_0);(try clear hcz25_0);(try clear hcz31_0);(try clear hcz41_0);(try clear hcz43_0);(try clear hcz46_0);(try clear hcz59_0);(try clear hcz62_0);(try clear hcz66_0);(try clear hcz69_0);(try clear hfz10_0);(try clear hfz19_0);(try clear hfz22_0);(try clear hfz25_0);(try clear hfz31_0);(try clear hfz41_0);(try clear hfz43_0);(try clear hfz46_0);(try clear hfz59_0);(try clear hfz62_0);(try clear hfz66_0);(try clear hfz69_0);(try clear hx122_0);(try clear hx123_0);(try clear hx124_0);(try clear p122);(try clear p123);(try clear p124);(try clear p2);(try clear p6);(try clear q122);(try clear q123);(try clear q124)
       obtain ⟨kq, x107_51, rfl, HA, HJ51, HO_10, HO_106000, HO_120000, BK105, BK119, HB⟩ := hcut
       cases kq with
       | zero => exact absurd HA.out (by simp [z3.j1])
       | succ kj51 =>
        have H := HA.out
        clear HA
        simp only [z3.j1] at H
        by_cases c70 : x107_51 = true
        ·subst c70
         replace H := T_ H
         exact absurd (H.trans (congrArg some ht_)) (by simp)
        ·replace c70 := Bool.eq_false_iff.mpr c70
         subst c70
         replace H := N_ H
         have H' := Aside0.mk H
         clear H
         go_wp2
         go_loopg [14] kj51 (fun kq v14 w' => ∃ (x14_3 : Int), v14 = .int .i64 x14_3 ∧ Aside0 (z3.l0 kq (t102.length : Int) t106 t111 x14_3 t102 = some r) ∧ Aside0 (kq ≤ kj51) ∧ Aside0 (Kd.R (Kd.int .i64) 2 w' w.heap.size (fun _ => True) v112 t111) ∧ Aside0 (Kd.N (Kd.slice 2 (Kd.int .i64)) 29 w' w.heap.size (fun k_ => some k_ ≠ (v112 : Value).ownBlock ∧ some k_ ≠ ((.slice Ao29 t115.length co29) : Value).ownBlock ∧ k_ ≠ gb105 ∧ k_ ≠ gb119) (.slice Ao18 t102.length co18) t102) ∧ Aside0 (Kd.N (Kd.slice 2 (Kd.int .i64)) 29 w' w.heap.size (fun k_ => some k_ ≠ (v112 : Value).ownBlock ∧ some k_ ≠ ((.slice Ao18 t102.length co18) : Value).ownBlock ∧ k_ ≠ gb105 ∧ k_ ≠ gb119) (.slice Ao29 t115.length co29) t115) ∧ Aside0 (w'.heap[gb105]? = some (.cells #[(.slice Ao18 t102.length co18)] 26 (0, 0))) ∧ Aside0 (w'.heap[gb119]? = some (.cells #[(.slice Ao29 t115.length co29)] 26 (0, 0))) ∧ Aside0 (Below w.heap.size w w'))
         case atStart => exact ⟨(0), E_, H', ⟨Nat.le_refl _⟩, ⟨KR_ HO_10.out⟩, ⟨KN_ HO_106000.out⟩, ⟨KN_ HO_120000.out⟩, ⟨KB_ BK105.out⟩, ⟨KB_ BK119.out⟩, ⟨B2_ HB.out GE105.out GE119.out⟩⟩
         case round =>
          clear H'
          (try clear c1);(try clear p1);(try clear q1);(try clear hx1);(try clear p2);(try clear c3);(try clear c4);(try clear c5);(try clear c6);(try clear c6b0);(try clear c6b1);(try clear c6b2);(try clear p6);(try clear c7);(try clear c8);(try clear c9);(try clear c12);(try clear p12);(try clear q12);(try clear hx12);(try clear c30);(try clear c32);(try clear c32b0);(try clear c32b1);(try clear c34);(try clear c35);(try clear c35b0);(try clear c35b1);(try clear c36);(try clear c36b0);(try clear c36b1);(try clear c38);(try clear c40);(try clear c45);(try clear c51);(try clear c53);(try clear c53b0);(try clear c54);(try clear c54b0);(try clear c55);(try clear c55b0);(try clear c55b1);(try clear c55b2);(try clear c56);(try clear c56b0);(try clear c56b1);(try clear c56b2);(try clear c58);(try clear c61);(try clear c63);(try clear c63b0);(try clear c63b1);(try clear c63b2);(try clear p64);(try clear c65)
          (try clear c68);(try clear c70);(try clear hcz10_0);(try clear hcz19_0);(try clear hcz22_0);(try clear hcz25_0);(try clear hcz31_0);(try clear hcz41_0);(try clear hcz43_0);(try clear hcz46_0);(try clear hcz59_0);(try clear hcz62_0);(try clear hcz66_0);(try clear hcz69_0);(try clear hfz10_0);(try clear hfz19_0);(try clear hfz22_0);(try clear hfz25_0);(try clear hfz31_0);(try clear hfz41_0);(try clear hfz43_0);(try clear hfz46_0);(try clear hfz59_0);(try clear hfz62_0);(try clear hfz66_0);(try clear hfz69_0);(try clear hx122_0);(try clear hx123_0);(try clear hx124_0);(try clear p1);(try clear p12);(try clear p122);(try clear p123);(try clear p124);(try clear p2);(try clear p6);(try clear p64);(try clear q1);(try clear q12);(try clear q122);(try clear q123);(try clear q124)
          obtain ⟨x14_3, rfl, HA, HK3, HO_10, HO_106000, HO_120000, BK105, BK119, HB⟩ := hrel
          cases gk with
          | zero => exact absurd HA.out (by simp [z3.l0])
          | succ k3 =>
           have H := HA.out
           clear HA
           simp only [z3.l0] at H
           by_cases c71 : x14_3 < (t111.length : Int)
           ·rw [if_pos c71] at H
            have c71b0 : decide (x14_3 < (t111.length : Int)) = true := decide_eq_true c71
            clear c71
            have HC72 := Aside0.mk H
            clear H
            obtain ⟨Ao73, co73, eo73⟩ := Kd.R_slice HO_10.out
            subst eo73
            go_upto_region 18 with (fail)
            go_cut [126] (fun v126 wc => ∃ (kq : Nat) (x126_71 : Bool), v126 = .bool x126_71 ∧ Aside0 (z3.j3 kq (t102.length : Int) t106 t111 x14_3 x126_71 t102 = some r) ∧ Aside0 (kq ≤ k3) ∧ Aside0 (Kd.R (Kd.int .i64) 2 wc w.heap.size (fun _ => True) (.slice Ao73 t111.length co73) t111) ∧ Aside0 (Kd.N (Kd.slice 2 (Kd.int .i64)) 29 wc w.heap.size (fun k_ => some k_ ≠ ((.slice Ao73 t111.length co73) : Value).ownBlock ∧ some k_ ≠ ((.slice Ao29 t115.length co29) : Value).ownBlock ∧ k_ ≠ gb105 ∧ k_ ≠ gb119) (.slice Ao18 t102.length co18) t102) ∧ Aside0 (Kd.N (Kd.slice 2 (Kd.int .i64)) 29 wc w.heap.size (fun k_ => some k_ ≠ ((.slice Ao73 t111.length co73) : Value).ownBlock ∧ some k_ ≠ ((.slice Ao18 t102.length co18) : Value).ownBlock ∧ k_ ≠ gb105 ∧ k_ ≠ gb119) (.slice Ao29 t115.length co29) t115) ∧ Aside0 (wc.heap[gb105]? = some (.cells #[(.slice Ao18 t102.length co18)] 26 (0, 0))) ∧ Aside0 (wc.heap[gb119]? = some (.cells #[(.slice Ao29 t115.length co29)] 26 (0, 0))) ∧ Aside0 (Below w.heap.size w wc))
            case first =>
             have H := HC72.out
             clear HC72
             have c74 := O1_ H
             replace H := O2_ H
             have c74b0 := decide_eq_true c74
             clear c74
             (first | rw [c74b0] | (simp only [i64_w, i32_w]; rw [c74b0]) | skip)
             by_cases c75 : (rd t111 x14_3) < 0
             ·rw [if_pos c75] at H
              have c75b0 : decide ((rd t111 x14_3) < 0) = true := decide_eq_true c75
              clear c75
              have H' := Aside0.mk H
              clear H
              have p131 : 0 ≤ (x14_3 : Int) := D_
              have q131 : x14_3 < (t111.length : Int) := D_
              obtain ⟨ad131, e131, hx131_0⟩ := Kd.at_int (Kd.R_reads' HO_10.out).2.2 x14_3 p131 q131
              cases e131
              replace p131 := eq_true p131
              replace q131 := eq_true q131
              go_wp2
              go_meet
              case rel => exact ⟨_, (true), E_, H', ⟨by have := HJ14.out; have := HJ51.out; have := HK3.out; first | omega | exact Nat.le_refl _⟩, ⟨KR_ HO_10.out⟩, ⟨KN_ HO_106000.out⟩, ⟨KN_ HO_120000.out⟩, ⟨KB_ BK105.out⟩, ⟨KB_ BK119.out⟩, ⟨B2_ HB.out GE105.out GE119.out⟩⟩
             ·rw [if_neg c75] at H
              have c75b0 : decide ((rd t111 x14_3) < 0) = false := decide_eq_false c75
              clear c75
              have H' := Aside0.mk H
              clear H
              have p131 : 0 ≤ (x14_3 : Int) := D_
              have q131 : x14_3 < (t111.length : Int) := D_
              obtain ⟨ad131, e131, hx131_0⟩ := Kd.at_int (Kd.R_reads' HO_10.out).2.2 x14_3 p131 q131
              cases e131
              replace p131 := eq_true p131
              replace q131 := eq_true q131
              have p132 : 0 ≤ (x14_3 : Int) := D_
              have q132 : x14_3 < (t111.length : Int) := D_
              obtain ⟨ad132, e132, hx132_0⟩ := Kd.at_int (Kd.R_reads' HO_10.out).2.2 x14_3 p132 q132
              obtain rfl : ad131 = ad132 := (by injection e132)
              replace p132 := eq_true p132
              replace q132 := eq_true q132
              go_wp2
              go_meet
              case rel => exact ⟨_, (decide ((rd t111 x14_3) ≥ (t102.length : Int))), E_, H', ⟨by have := HJ14.out; have := HJ51.out; have := HK3.out; first | omega | exact Nat.le_refl _⟩, ⟨KR_ HO_10.out⟩, ⟨KN_ HO_106000.out⟩, ⟨KN_ HO_120000.out⟩, ⟨KB_ BK105.out⟩, ⟨KB_ BK119.out⟩, ⟨B2_ HB.out GE105.out GE119.out⟩⟩
            case rest =>
             clear HC72
             (try clear c1);(try clear p1);(try clear q1);(try clear hx1);(try clear p2);(try clear c3);(try clear c4);(try clear c5);(try clear c6);(try clear c6b0);(try clear c6b1);(try clear c6b2);(try clear p6);(try clear c7);(try clear c8);(try clear c9);(try clear c12);(try clear p12);(try clear q12);(try clear hx12);(try clear p13);(try clear q13);(try clear hx13);(try clear c30);(try clear c32);(try clear c32b0);(try clear c32b1);(try clear c34);(try clear c35);(try clear c35b0);(try clear c35b1);(try clear c36);(try clear c36b0);(try clear c36b1);(try clear c38);(try clear c40);(try clear c45);(try clear c51);(try clear c53);(try clear c53b0);(try clear c54);(try clear c54b0);(try clear c55);(try clear c55b0);(try clear c55b1);(try clear c55b2);(try clear c56);(try clear c56b0);(try clear c56b1);(try clear c56b2);(try clear c58);(try clear c61);(try clear c63);(try clear c63b0);(try clear c63b1)
             (try clear c63b2);(try clear p64);(try clear c65);(try clear c68);(try clear c70);(try clear c71);(try clear c71b0);(try clear c74);(try clear c74b0);(try clear c75);(try clear c75b0);(try clear hcz10_0);(try clear hcz19_0);(try clear hcz22_0);(try clear hcz25_0);(try clear hcz31_0);(try clear hcz41_0);(try clear hcz43_0);(try clear hcz46_0);(try clear hcz59_0);(try clear hcz62_0);(try clear hcz66_0);(try clear hcz69_0);(try clear hfz10_0);(try clear hfz19_0);(try clear hfz22_0);(try clear hfz25_0);(try clear hfz31_0);(try clear hfz41_0);(try clear hfz43_0);(try clear hfz46_0);(try clear hfz59_0);(try clear hfz62_0);(try clear hfz66_0);(try clear hfz69_0);(try clear hx122_0);(try clear hx123_0);(try clear hx124_0);(try clear hx131_0);(try clear hx132_0);(try clear p1);(try clear p12);(try clear p122);(try clear p123);(try clear p124);(try clear p131);(try clear p132);(try clear p2);(try clear p6)
             (try clear p64);(try clear q1);(try clear q12);(try clear q122);(try clear q123);(try clear q124);(try clear q131);(try clear q132)
             obtain ⟨kq, x126_71, rfl, HA, HJ71, HO_10, HO_106000, HO_120000, BK105, BK119, HB⟩ := hcut
             cases kq with
             | zero => exact absurd HA.out (by simp [z3.j3])
             | succ kj71 =>
              have H := HA.out
              clear HA
              simp only [z3.j3] at H
              by_cases c76 : x126_71 = true
              ·subst c76
               replace H := T_ H
               exact absurd (H.trans (congrArg some ht_)) (by simp)
              ·replace c76 := Bool.eq_false_iff.mpr c76
               subst c76
               replace H := N_ H
               have c77 := O1_ H
               replace H := O2_ H
               have c77b0 := decide_eq_true c77
               clear c77
               have c78 := O1_ H
               replace H := O2_ H
               have c78b0 := decide_eq_true c78
               clear c78
               replace H := Option.bind_eq_some_iff.mp H
               obtain ⟨⟨t134, t137⟩, A790, H⟩ := H
               try dsimp only at H
               have A79 := Aside0.mk A790
               clear A790
               by_cases c80 : t137 = 0
               ·rw [if_pos c80] at H
                have c80b0 : (t137 == 0) = true := beq_iff_eq.mpr c80
                have c80b1 : (t137 != 0) = false := bne_eq_false_iff_eq.mpr c80
                clear c80
                replace H := Option.bind_eq_some_iff.mp H
                obtain ⟨t138, A810, H⟩ := H
                have A81 := Aside0.mk A810
                clear A810
                by_cases c82 : t138 = true
                ·subst c82
                 replace H := T_ H
                 have H' := Aside0.mk H
                 clear H
                 try go_wp2
                 replace HO_10 := Aside0.mk (Kd.R_drew HO_10.out)
                 replace HO_106000 := Aside0.mk (Kd.N_drew HO_106000.out)
                 replace HO_120000 := Aside0.mk (Kd.N_drew HO_120000.out)
                 replace BK105 := Aside0.mk (blk_drew BK105.out)
                 replace BK119 := Aside0.mk (blk_drew BK119.out)
                 replace HB := Aside0.mk (below_drew1 HB.out)
                 have p133 : 0 ≤ (x14_3 : Int) := D_
                 have q133 : x14_3 < (t111.length : Int) := D_
                 obtain ⟨ad133, e133, hx133_0⟩ := Kd.at_int (Kd.R_reads' HO_10.out).2.2 x14_3 p133 q133
                 cases e133
                 replace p133 := eq_true p133
                 replace q133 := eq_true q133
                 refine start_ (n := 11) (S := fun w' => w'.cell? ⟨gb105, 0, none⟩ = some (.slice Ao18 t102.length co18) ∧ w'.cell? (ad133.add (x14_3).toNat) = some (.int .i64 (rd t111 x14_3))) (ds := []) (tb_ 11 0) (by kernel_rfl) rfl rfl ⟨(blk_cell BK105.out 0).trans rfl, hx133_0⟩ (fun hHeld => ?_); refine with_tabW z3.tab20 z3.bits20 (fun HT_ HW_ => ?_)
                 generalize wc.drew = w83 at HO_10 HO_106000 HO_120000 BK105 BK119 HB hx133_0 hHeld ⊢
                 refine PV_ (i := 1) (N := some 129) (tb_ 11 2) HT_ rfl rfl (h := ?_)
                 refine PV_ (i := 2) (N := some 130) (tb_ 11 6) HT_ rfl rfl (h := ?_)
                 refine PV_ (i := 3) (N := some 131) (tb_ 11 14) HT_ rfl rfl (h := ?_)
                 refine TV_ (i := 0) (N := some 128) (tb_ 11 15) HT_ HW_ rfl rfl hHeld (by rintro w' ⟨s0, s1⟩; go_simp; with_reducible rfl) (h := ?_)
                 refine TV_ (i := 4) (N := some 132) (tb_ 11 31) HT_ HW_ rfl rfl hHeld (by rintro w' ⟨s0, s1⟩; go_simp; with_reducible rfl) (h := ?_)
                 refine one_ (i := 5) (N := some 133) (tb_ 11 63) rfl rfl (one_of HT_.out (by kernel_rfl)) (by decide) (fun K hK => ?_)
                 refine GO_ Try.func7 #[.agg #[.slice Ao18 t102.length co18], .int .i64 (rd t111 x14_3)] (h := ?_)
                 with_reducible refine (z7.calls kj71 _ _ t102 (rd t111 x14_3) t134 t137 _ ?side1 ?side2 A79.out).mono ?_
                 (case side1 => exact KC_ (Kd.N_reads' HO_106000.out).2.2)
                 (case side2 => exact (Kd.N_reads' HO_106000.out).2.1)
                 rintro e w84 ⟨v135, rfl, ho0, hb⟩
                 have HS1_ := (hb.cell (World.block_lt_of_cell? _ _ (hHeld.2))).trans (hHeld.2)
                 refine ⟨_, rfl, ?_⟩
                 obtain ⟨nan85, hnan85⟩ := Kd.size_letter hb
                 have n0_ := Aside0.mk (Kd.R_told (Kd.R_oldN (KR_ HO_10.out) hb hnan85) (Kd.R_baseN ho0 hnan85))
                 have n1_ := Aside0.mk (Kd.N_elder' (KN_ HO_106000.out) (Kd.R_base ho0) hb)
                 have n2_ := Aside0.mk (Kd.N_elder' (KN_ HO_120000.out) (Kd.R_base ho0) hb)
                 have n3_ := Aside0.mk (Kd.R_lower (Kd.R_geN (Kd.R_new' ho0 (Kd.R_lt (KR_ HO_10.out))) hnan85) (below_size (B2_ HB.out GE105.out GE119.out)))
                 have n4_ := Aside0.mk (blk_below (g := gb105) (o := .cells #[.slice Ao18 t102.length co18] 26 (0, 0)) (KB_ BK105.out) hb)
                 have n5_ := Aside0.mk (blk_below (g := gb119) (o := .cells #[.slice Ao29 t115.length co29] 26 (0, 0)) (KB_ BK119.out) hb)
                 have n6_ := Aside0.mk (below_step (B2_ HB.out GE105.out GE119.out) hb)
                 clear HO_10
                 clear HO_106000
                 clear HO_120000
                 clear BK105
                 clear BK119
                 clear HB
                 have HO_10 := n0_
                 have HO_106000 := n1_
                 have HO_120000 := n2_
                 have HO136 := n3_
                 have BK105 := n4_
                 have BK119 := n5_
                 have HB := n6_
                 clear n0_ n1_ n2_ n3_ n4_ n5_ n6_
                 (try clear hb);(try clear hb2);(try clear hk);(try clear hi);(try clear ho0)
                 refine hK.out _ _ ⟨(blk_cell BK105.out 0).trans rfl, HS1_⟩ (fun hHeld => ?_)
                 clear hK K
                 refine NM_ (N := (some 133)) (h := ?_)
                 refine PV_ (i := 6) (N := some 127) (tb_ 11 127) HT_ rfl rfl (h := ?_)
                 refine PV_ (i := 7) (N := some 134) (tb_ 11 255) HT_ rfl rfl (h := ?_)
                 refine PV_ (i := 8) (N := some 135) (tb_ 11 511) HT_ rfl rfl (h := ?_)
                 refine PV_ (i := 9) (N := some 15) (tb_ 11 1023) HT_ rfl rfl (h := ?_)
                 refine PV_ (i := 10) (N := some 16) (tb_ 11 2047) HT_ rfl rfl (h := ?_)
                 refine done_ (done_of HT_.out (by kernel_rfl)) ?_
                 obtain ⟨Ao86, co86, eo86⟩ := Kd.R_slice HO136.out
                 subst eo86
                 try go_wp2_with (first | (go_at_call 10; (with_reducible refine (z10.calls kj71 _ _ t134 t106 true _ ?side1 ?side2 A81.out).mono ?_); (case side1 => exact KC_ (Kd.R_reads' HO136.out).2.2); (case side2 => exact (Kd.R_reads' HO136.out).2.1); rintro e w' ⟨rfl, ⟨nd, rfl⟩⟩))
                 go_roundg kj71
                 case measure => have := HJ14.out; have := HJ51.out; have := HK3.out; have := HJ71.out; omega
                 case rel => exact ⟨(wrap64 (x14_3 + 1)), E_, H', ⟨by have := HJ14.out; have := HJ51.out; have := HK3.out; have := HJ71.out; omega⟩, ⟨by (with_reducible repeat (first | apply Kd.R_alloc | apply Kd.R_drewN | apply Kd.R_drew)); exact Kd.R_mono HO_10.out (fun _ hk => trivial)⟩, ⟨by (with_reducible repeat (first | apply Kd.N_alloc | apply Kd.N_drewN | apply Kd.N_drew)); exact Kd.N_mono HO_106000.out (fun _ hk => ⟨hk.1.1, ⟨hk.1.2.1, ⟨hk.1.2.2.1, hk.1.2.2.2⟩⟩⟩)⟩, ⟨by (with_reducible repeat (first | apply Kd.N_alloc | apply Kd.N_drewN | apply Kd.N_drew)); exact Kd.N_mono HO_120000.out (fun _ hk => ⟨hk.1.1, ⟨hk.1.2.1, ⟨hk.1.2.2.1, hk.1.2.2.2⟩⟩⟩)⟩, ⟨KB_ BK105.out⟩, ⟨KB_ BK119.out⟩, ⟨B2_ HB.out GE105.out GE119.out⟩⟩
                ·replace c82 := Bool.eq_false_iff.mpr c82
                 subst c82
                 replace H := N_ H
                 exact absurd (H.trans (congrArg some ht_)) (by simp)
               ·rw [if_neg c80] at H
                have c80b0 : (t137 == 0) = false := beq_eq_false_iff_ne.mpr c80
                have c80b1 : (t137 != 0) = true := bne_iff_ne.mpr c80
                exact absurd (H.trans (congrArg some ht_)) (by simp)
           ·rw [if_neg c71] at H
            have c71b0 : decide (x14_3 < (t111.length : Int)) = false := decide_eq_false c71
            clear c71
            have c87 := O1_ H
            replace H := O2_ H
            have c87b0 := decide_eq_true c87
            clear c87
            have c88 := O1_ H
            replace H := O2_ H
            have c88b0 := decide_eq_true c88
            clear c88
            replace H := Option.bind_eq_some_iff.mp H
            obtain ⟨⟨t126, t129⟩, A890, H⟩ := H
            try dsimp only at H
            have A89 := Aside0.mk A890
            clear A890
            by_cases c90 : t129 = 0
            ·rw [if_pos c90] at H
             have c90b0 : (t129 == 0) = true := beq_iff_eq.mpr c90
             have c90b1 : (t129 != 0) = false := bne_eq_false_iff_eq.mpr c90
             clear c90
             replace H := Option.bind_eq_some_iff.mp H
             obtain ⟨t130, A910, H⟩ := H
             have A91 := Aside0.mk A910
             clear A910
             obtain rfl := Option.some.inj H
             obtain ⟨Ao92, co92, eo92⟩ := Kd.R_slice HO_10.out
             subst eo92
             try go_wp2
             replace HO_10 := Aside0.mk (Kd.R_drew HO_10.out)
             replace HO_106000 := Aside0.mk (Kd.N_drew HO_106000.out)
             replace HO_120000 := Aside0.mk (Kd.N_drew HO_120000.out)
             replace BK105 := Aside0.mk (blk_drew BK105.out)
             replace BK119 := Aside0.mk (blk_drew BK119.out)
             replace HB := Aside0.mk (below_drew1 HB.out)
             have p125 : 0 ≤ (t106 : Int) := D_
             have q125 : t106 < (t102.length : Int) := D_
             obtain ⟨ad125, A125_0, c125_0, e125, hx125_0, hl125_0, hi125_0⟩ := at_ListInt (Kd.N_reads' HO_106000.out).2.2 t106 p125 q125
             cases e125
             obtain ⟨ce125, hce125, hMe125, hcc125⟩ := Kd.N_get HO_106000.out [] t106 p125 (by first | exact q125 | exact D_ | (have e_ := (Kd.N_reads' HO_106000.out).1; omega))
             obtain ⟨ua125_0, uc125_0, rfl, ul125_0, ge125_0⟩ := Kd.FK_slice_open hMe125
             have hv125_0 := hcc125 0 _ rfl
             rw [Nat.add_zero, show ((Kd.slice 2 (Kd.int .i64))).sz = 1 from rfl, Nat.mul_one] at hv125_0
             replace hv125_0 := Option.some.inj (hv125_0.symm.trans hx125_0)
             injection hv125_0 with hva_ hvn_ hvc_
             rw [hva_] at ge125_0
             rw [hvc_] at ul125_0
             have HL125_0 := Aside0.mk (show Kd.V (Kd.int .i64) 2 _ w.heap.size _ _ (rd_ListInt t102 t106) from Kd.V_mk ul125_0 ge125_0)
             clear hva_ hvn_ hvc_ ge125_0 ul125_0
             clear hcc125 hce125
             have HR125_0 := Aside0.mk hi125_0
             have HC125_0 := Aside0.mk hl125_0
             clear hi125_0 hl125_0
             replace p125 := eq_true p125
             replace q125 := eq_true q125
             refine start_ (n := 14) (S := fun w' => w'.cell? ⟨gb105, 0, none⟩ = some (.slice (some ad125) t102.length co18) ∧ w'.cell? (ad125.add (t106).toNat) = some (.slice A125_0 (rd_ListInt t102 t106).length c125_0)) (ds := []) (tb_ 14 0) (by kernel_rfl) rfl rfl ⟨(blk_cell BK105.out 0).trans rfl, hx125_0⟩ (fun hHeld => ?_); refine with_tabW z3.tab23 z3.bits23 (fun HT_ HW_ => ?_)
             generalize wr.drew = w93 at HO_10 HO_106000 HO_120000 BK105 BK119 HB HL125_0 HR125_0 hx125_0 hHeld ⊢
             refine PV_ (i := 1) (N := some 146) (tb_ 14 2) HT_ rfl rfl (h := ?_)
             refine PV_ (i := 3) (N := some 148) (tb_ 14 10) HT_ rfl rfl (h := ?_)
             refine TV_ (i := 0) (N := some 145) (tb_ 14 11) HT_ HW_ rfl rfl hHeld (by rintro w' ⟨s0, s1⟩; go_simp; with_reducible rfl) (h := ?_)
             refine TV_ (i := 2) (N := some 147) (tb_ 14 15) HT_ HW_ rfl rfl hHeld (by rintro w' ⟨s0, s1⟩; go_simp; with_reducible rfl) (h := ?_)
             refine PV_ (i := 4) (N := some 149) (tb_ 14 31) HT_ rfl rfl (h := ?_)
             refine TV_ (i := 5) (N := some 150) (tb_ 14 63) HT_ HW_ rfl rfl hHeld (by rintro w' ⟨s0, s1⟩; go_simp; with_reducible rfl) (h := ?_)
             refine PV_ (i := 6) (N := some 151) (tb_ 14 127) HT_ rfl rfl (h := ?_)
             refine PV_ (i := 7) (N := some 152) (tb_ 14 255) HT_ rfl rfl (h := ?_)
             refine one_ (i := 8) (N := some 153) (tb_ 14 511) rfl rfl (one_of HT_.out (by kernel_rfl)) (by decide) (fun K hK => ?_)
             refine GO_ Try.func12 #[.agg #[.slice (some ad125) t102.length co18], .int .i64 (wrap64 (((rd_ListInt t102 t106).length : Int) - 1))] (h := ?_)
             with_reducible refine (z12.calls k3 _ _ t102 (wrap64 (((rd_ListInt t102 t106).length : Int) - 1)) t126 t129 _ ?side1 ?side2 A89.out).mono ?_
             (case side1 => exact KC_ (Kd.N_reads' HO_106000.out).2.2)
             (case side2 => exact (Kd.N_reads' HO_106000.out).2.1)
             rintro e w94 ⟨v127, rfl, ho0, hb⟩
             have HS1_ := (hb.cell (World.block_lt_of_cell? _ _ (hHeld.2))).trans (hHeld.2)
             refine ⟨_, rfl, ?_⟩
             obtain ⟨nan95, hnan95⟩ := Kd.size_letter hb
             have n0_ := Aside0.mk (Kd.R_told (Kd.R_oldN (KR_ HO_10.out) hb hnan95) (Kd.R_baseN ho0 hnan95))
             have n1_ := Aside0.mk (Kd.N_elder' (KN_ HO_106000.out) (Kd.R_base ho0) hb)
             have n2_ := Aside0.mk (Kd.N_elder' (KN_ HO_120000.out) (Kd.R_base ho0) hb)
             have n3_ := Aside0.mk (Kd.V_elder' (by (with_reducible repeat (first | apply Kd.V_alloc | apply Kd.V_drewN | apply Kd.V_drew)); exact HL125_0.out) (Kd.R_base ho0) hb)
             have n4_ := Aside0.mk (Kd.R_lower (Kd.R_geN (Kd.R_new' ho0 (Kd.R_lt (KR_ HO_10.out))) hnan95) (below_size (B2_ HB.out GE105.out GE119.out)))
             have n5_ := Aside0.mk (blk_below (g := gb105) (o := .cells #[.slice (some ad125) t102.length co18] 26 (0, 0)) (KB_ BK105.out) hb)
             have n6_ := Aside0.mk (blk_below (g := gb119) (o := .cells #[.slice Ao29 t115.length co29] 26 (0, 0)) (KB_ BK119.out) hb)
             have n7_ := Aside0.mk (Kd.C_below (KC_ HR125_0.out) hb)
             have n8_ := Aside0.mk (below_step (B2_ HB.out GE105.out GE119.out) hb)
             clear HO_10
             clear HO_106000
             clear HO_120000
             clear HL125_0
             clear BK105
             clear BK119
             clear HR125_0
             clear HB
             have HO_10 := n0_
             have HO_106000 := n1_
             have HO_120000 := n2_
             have HL125_0 := n3_
             have HO128 := n4_
             have BK105 := n5_
             have BK119 := n6_
             have HR125_0 := n7_
             have HB := n8_
             clear n0_ n1_ n2_ n3_ n4_ n5_ n6_ n7_ n8_
             (try clear hb);(try clear hb2);(try clear hk);(try clear hi);(try clear ho0)
             refine hK.out _ _ ⟨(blk_cell BK105.out 0).trans rfl, HS1_⟩ (fun hHeld => ?_)
             clear hK K
             refine NM_ (N := (some 153)) (h := ?_)
             refine PV_ (i := 9) (N := some 144) (tb_ 14 1023) HT_ rfl rfl (h := ?_)
             refine PV_ (i := 10) (N := some 154) (tb_ 14 2047) HT_ rfl rfl (h := ?_)
             refine PV_ (i := 11) (N := some 155) (tb_ 14 4095) HT_ rfl rfl (h := ?_)
             refine PV_ (i := 12) (N := some 17) (tb_ 14 8191) HT_ rfl rfl (h := ?_)
             refine PV_ (i := 13) (N := some 18) (tb_ 14 16383) HT_ rfl rfl (h := ?_)
             refine done_ (done_of HT_.out (by kernel_rfl)) ?_
             obtain ⟨Ao96, co96, eo96⟩ := Kd.R_slice HO128.out
             subst eo96
             try go_wp2_with (first | (go_at_call 10; (with_reducible refine (z10.calls k3 _ _ t126 t106 t130 _ ?side1 ?side2 A91.out).mono ?_); (case side1 => exact KC_ (Kd.R_reads' HO128.out).2.2); (case side2 => exact (Kd.R_reads' HO128.out).2.1); rintro e w' ⟨rfl, ⟨nd, rfl⟩⟩))
             go_ret
             exact ⟨F_, B2_ HB.out GE105.out GE119.out⟩
            ·rw [if_neg c90] at H
             have c90b0 : (t129 == 0) = false := beq_eq_false_iff_ne.mpr c90
             have c90b1 : (t129 != 0) = true := bne_iff_ne.mpr c90
             exact absurd (H.trans (congrArg some ht_)) (by simp)
end Go.Proofs.Ytidfblakgolbpaa.B
