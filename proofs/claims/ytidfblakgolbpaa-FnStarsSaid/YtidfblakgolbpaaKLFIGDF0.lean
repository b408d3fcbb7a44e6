/- Printed proofs of functions of the program and of the reference, by a program of this work over the kit's printer. -/
import Derived.Test.YtidfblakgolbpaaKABKJAH0
import Derived.Test.YtidfblakgolbpaaKBEEMKG0
import Derived.Test.YtidfblakgolbpaaKGBPODH0
import Derived.Test.YtidfblakgolbpaaKGBPODH1
import Derived.Test.YtidfblakgolbpaaKW0
namespace Go.Proofs.Ytidfblakgolbpaa.B
open Go.RowKit Go.Proofs.YtidfblakgolbpaaW.PrintWords Go.Proofs.YtidfblakgolbpaaW.PrintLast Go.Proofs.YtidfblakgolbpaaW.PrintMore
attribute [local go_sem] max2_int min2_int max_two min_two max_three min_three max_four min_four
set_option linter.unusedVariables false
set_option linter.unusedSimpArgs false
def z9.l0 : Nat → Int → List (List Int) → List Int → Int → Int → List (List Int) → Option ((List (List Int)) × Int)
 | 0, _, _, _, _, _, _ => none
 | k + 1, x1, x7, x20, x21, x22, x102000 => if x22 < x21 then (if 0 ≤ x22 then (if x22 < (x20.length : Int) then (if 0 ≤ (rd x20 x22) then (if (rd x20 x22) < (x102000.length : Int) then (if 0 ≤ x1 then (if x1 < (x102000.length : Int) then ((impl_without.f (rd_ListInt x102000 (rd x20 x22)) (rd_ListInt x102000 x1)).bind fun t110 => (if (t110.length : Int) > 0 then (if x7.length < 5864062014805 then (z9.l0 k x1 (x7 ++ [t110]) x20 x21 (wrap64 (x22 + 1)) x102000) else (none)) else (z9.l0 k x1 x7 x20 x21 (wrap64 (x22 + 1)) x102000))) else (none)) else (none)) else (none)) else (none)) else (none)) else (none)) else ((impl_inOrder.f x7).bind fun t116 => (some (t116, 0)))
def z9.f (k : Nat) (l0_0 : List (List Int)) (a1 : Int) : Option ((List (List Int)) × Int) := (z15.f k l0_0 a1).bind fun t103 => (if t103 = 0 then ((z16.f k l0_0 a1).bind fun t104 => (z9.l0 k a1 ([] : List (List Int)) t104 (t104.length : Int) 0 l0_0)) else (some (([] : List (List Int)), t103)))
def z9.T8 : Bool × List (List Nat × List Nat) := (true, [([], []), ([0], [0]), ([], []), ([1, 2], [1, 2]), ([3], [3]), ([], []), ([5], [5]), ([], []), ([6, 7], [6, 7]), ([8], [8]), ([4, 9], [4, 9]), ([10, 10, 0, 1, 2, 3, 4, 5, 6, 7, 8, 9, 10], [10])])
def z9.B8 : List Nat := [0, 1, 0, 7, 15, 0, 32, 0, 224, 480, 1023, 2047]
theorem z9.tab8 : rtab .any (opsOf Try.f9 8) = z9.T8 := by kernel_rfl
theorem z9.bits8 : waitsOk z9.T8.2 z9.B8 = true := by kernel_rfl
set_option maxHeartbeats 8000000 in
set_option maxRecDepth 100000 in
theorem z9.calls (k : Nat) (A0_0 : Option Addr) (c0_0 : Nat) (l0_0 : List (List Int)) (a1 : Int) (r1 : List (List Int)) (r2 : Int) (w : World) (hr0_0 : Kd.C (Kd.slice 2 (Kd.int .i64)) w A0_0 l0_0.length l0_0) (hc0_0 : l0_0.length ≤ c0_0) (h : z9.f k l0_0 a1 = some (r1, r2)) :
  Calls Try.prog 9 #[.agg #[.slice A0_0 l0_0.length c0_0], .int .i64 a1] w fun e w' => ∃ v0_ : Value, e = .returned (.tuple #[.agg #[v0_], .int .i64 r2]) ∧ Kd.S (Kd.slice 2 (Kd.int .i64)) 29 w' w.heap.size (fun _ => True) v0_ r1 ∧ Below w.heap.size w w' := by
 have hu26 := Try.underlying26
 have HR0_0 := Aside0.mk hr0_0
 have HC0_0 := Aside0.mk hc0_0
 clear hr0_0 hc0_0
 have HB := Aside0.mk (Below.refl w.heap.size w)
 have H : ((z15.f k l0_0 a1).bind fun t103 => (if t103 = 0 then ((z16.f k l0_0 a1).bind fun t104 => (z9.l0 k a1 ([] : List (List Int)) t104 (t104.length : Int) 0 l0_0)) else (some (([] : List (List Int)), t103)))) = some (r1, r2) := h
 clear h
 replace H := Option.bind_eq_some_iff.mp H
 obtain ⟨t103, A30, H⟩ := H
 replace H : (if t103 = 0 then ((z16.f k l0_0 a1).bind fun t104 => (z9.l0 k a1 ([] : List (List Int)) t104 (t104.length : Int) 0 l0_0)) else (some (([] : List (List Int)), t103))) = some (r1, r2) := H
 have A3 := Aside0.mk A30
 clear A30
 by_cases c4 : t103 = 0
 ·rw [if_pos c4] at H
  have c4b0 : (t103 == 0) = true := beq_iff_eq.mpr c4
  have c4b1 : (t103 != 0) = false := bne_eq_false_iff_eq.mpr c4
  clear c4
  replace H := Option.bind_eq_some_iff.mp H
  obtain ⟨t104, A50, H⟩ := H
  replace H : (z9.l0 k a1 ([] : List (List Int)) t104 (t104.length : Int) 0 l0_0) = some (r1, r2) := H
  have A5 := Aside0.mk A50
  clear A50
  have H' := Aside0.mk H
  clear H
  go_enter Try.func9, Try.ntmps9
  go_wp2_with (first | ((with_reducible refine gate_dst (N := 2) rfl ?_); refine box_event ?hg (N := 2) ?hd (cs := #[.slice A0_0 l0_0.length c0_0]) (t := 26) ?hr ?_; (case hd => rfl); (case hg => rfl); (case hr => first | (go_simp; done) | (go_simp; rfl)); intro gb101 hg w6 hbox hb; have n0_ := Aside0.mk (below_step (B_ HB.out) hb); have n1_ := Aside0.mk (hbox); have n2_ := Aside0.mk ((by rw [hg]; exact (below_size (B_ HB.out)) : w.heap.size ≤ gb101)); have n3_ := Aside0.mk ((by rw [hg]; exact (below_size (B_ HB.out)) : w.heap.size ≤ gb101)); clear HB; have HB := n0_; have BK101 := n1_; have GW101 := n2_; have GE101 := n3_; clear n0_ n1_ n2_ n3_; clear hb hbox hg) | ((with_reducible refine gate_dst (N := 4) rfl ?_); refine box_event ?hg (N := 4) ?hd (cs := #[.slice none 0 0]) (t := 26) ?hr ?_; (case hd => rfl); (case hg => rfl); (case hr => first | (go_simp; done) | (go_simp; rfl)); intro gb102 hg w7 hbox hb; have n0_ := Aside0.mk (blk_below (g := gb101) (o := .cells #[.slice A0_0 l0_0.length c0_0] 26 (0, 0)) (KB_ BK101.out) hb); have n1_ := Aside0.mk (below_step (B1_ HB.out GE101.out) hb); have n2_ := Aside0.mk (hbox); have n3_ := Aside0.mk ((by rw [hg]; exact (below_size (B1_ HB.out GE101.out)) : w.heap.size ≤ gb102)); have n4_ := Aside0.mk ((by rw [hg]; exact (below_size (B1_ HB.out GE101.out)) : w.heap.size ≤ gb102)); have n5_ := Aside0.mk ((by rw [hg]; exact Nat.ne_of_lt (blk_lt (g := gb101) (o := .cells #[.slice A0_0 l0_0.length c0_0] 26 (0, 0)) (KB_ BK101.out)) : gb101 ≠ gb102)); have n6_ := Aside0.mk ((by rw [hg]; exact Nat.ne_of_gt (blk_lt (g := gb101) (o := .cells #[.slice A0_0 l0_0.length c0_0] 26 (0, 0)) (KB_ BK101.out)) : gb102 ≠ gb101)); clear BK101; clear HB; have BK101 := n0_; have HB := n1_; have BK102 := n2_; have GW102 := n3_; have GE102 := n4_; have NB101_102 := n5_; have NB102_101 := n6_; clear n0_ n1_ n2_ n3_ n4_ n5_ n6_; clear hb hbox hg; have hnb8 := NB101_102.out; have hnc8 := NB102_101.out; have hcz9_0 : w7.cell? ⟨gb101, 0, none⟩ = some (.slice A0_0 l0_0.length c0_0) := (blk_cell BK101.out 0).trans rfl; have hfz9_0 := blk_frozen BK101.out 0) | ((with_reducible refine gate_callee (f := 15) rfl ?_); refine goesL_ (some 13) rfl rfl Try.func15 (by kernel_rfl) rfl #[.agg #[.slice A0_0 l0_0.length c0_0], .int .i64 a1] rfl (by (try simp only [List.map_toArray, List.map_cons, List.map_nil]); first | done | rfl | (simp only [List.length_drop, List.length_take]; rfl)) ?_; (with_reducible refine (z15.calls k _ _ l0_0 a1 t103 _ ?side1 ?side2 A3.out).mono ?_); (case side1 => exact KC_ (Kd.C_below HR0_0.out HB.out)); (case side2 => exact HC0_0.out); rintro e w10 ⟨rfl, hb⟩; refine ⟨_, rfl, ?_⟩; replace BK101 := Aside0.mk (blk_below (g := gb101) (o := .cells #[.slice A0_0 l0_0.length c0_0] 26 (0, 0)) (KB_ BK101.out) hb); replace BK102 := Aside0.mk (blk_below (g := gb102) (o := .cells #[.slice none 0 0] 26 (0, 0)) (KB_ BK102.out) hb); replace HB := Aside0.mk (below_step (B2_ HB.out GE101.out GE102.out) hb); (try clear hb); (try clear hb2); (try clear hk); (try clear hi); have hcz11_0 : w10.cell? ⟨gb101, 0, none⟩ = some (.slice A0_0 l0_0.length c0_0) := (blk_cell BK101.out 0).trans rfl; have hfz11_0 := blk_frozen BK101.out 0) | ((with_reducible refine gate_callee (f := 16) rfl ?_); refine goesL_ (some 20) rfl rfl Try.func16 (by kernel_rfl) rfl #[.agg #[.slice A0_0 l0_0.length c0_0], .int .i64 a1] rfl (by (try simp only [List.map_toArray, List.map_cons, List.map_nil]); first | done | rfl | (simp only [List.length_drop, List.length_take]; rfl)) ?_; (with_reducible refine (z16.calls k _ _ l0_0 a1 t104 _ ?side1 ?side2 A5.out).mono ?_); (case side1 => exact KC_ (Kd.C_below HR0_0.out HB.out)); (case side2 => exact HC0_0.out); rintro e w12 ⟨v105, rfl, ho0, hb⟩; refine ⟨_, rfl, ?_⟩; have HO106 := Aside0.mk (Kd.R_lower ho0 (below_size (B2_ HB.out GE101.out GE102.out))); replace BK101 := Aside0.mk (blk_below (g := gb101) (o := .cells #[.slice A0_0 l0_0.length c0_0] 26 (0, 0)) (KB_ BK101.out) hb); replace BK102 := Aside0.mk (blk_below (g := gb102) (o := .cells #[.slice none 0 0] 26 (0, 0)) (KB_ BK102.out) hb); replace HB := Aside0.mk (below_step (B2_ HB.out GE101.out GE102.out) hb); (try clear hb); (try clear hb2); (try clear hk); (try clear hi); (try clear ho0); obtain ⟨Ao13, co13, eo13⟩ := Kd.R_slice HO106.out; subst eo13))
  go_loopg [7, 22] k (fun kq v7 v22 w' => ∃ (x7_1 : List (List Int)) (x22_1 : Int), v22 = .int .i64 x22_1 ∧ Aside0 (z9.l0 kq a1 x7_1 t104 (t104.length : Int) x22_1 l0_0 = some (r1, r2)) ∧ Aside0 (kq ≤ k) ∧ Aside0 (Kd.S (Kd.slice 2 (Kd.int .i64)) 29 w' w.heap.size (fun k_ => some k_ ≠ ((.slice Ao13 t104.length co13) : Value).ownBlock) v7 x7_1) ∧ Aside0 (Kd.R (Kd.int .i64) 2 w' w.heap.size (fun _ => True) (.slice Ao13 t104.length co13) t104) ∧ Aside0 (w'.heap[gb101]? = some (.cells #[(.slice A0_0 l0_0.length c0_0)] 26 (0, 0))) ∧ Aside0 (w'.heap[gb102]? = some (.cells #[(.slice none 0 0)] 26 (0, 0))) ∧ Aside0 (Below w.heap.size w w'))
  case atStart => exact ⟨(([] : List (List Int))), (0), E_, H', ⟨Nat.le_refl _⟩, ⟨by first | exact Kd.S_nil _ _ _ _ _ | exact Kd.N_nil _ _ _ _ _ | exact Kd.V_nil _ _ _ _ _ | exact Kd.Q_nil _ _ _ _ _ | exact Kd.R_nil _ _ _ _ _⟩, ⟨KR_ HO106.out⟩, ⟨KB_ BK101.out⟩, ⟨KB_ BK102.out⟩, ⟨B2_ HB.out GE101.out GE102.out⟩⟩
  case round =>
   clear H'
   (try clear c1);(try clear p2);(try clear c4);(try clear c4b0);(try clear c4b1);(try clear c8);(try clear c9);(try clear hcz11_0);(try clear hcz9_0);(try clear hfz11_0);(try clear hfz9_0)
   obtain ⟨x7_1, x22_1, rfl, HA, HK1, HO_7, HO_20, BK101, BK102, HB⟩ := hrel
   cases gk with
   | zero => exact absurd HA.out (by simp [z9.l0])
   | succ k1 =>
    have H := HA.out
    clear HA
    simp only [z9.l0] at H
    by_cases c14 : x22_1 < (t104.length : Int)
    ·rw [if_pos c14] at H
     have c14b0 : decide (x22_1 < (t104.length : Int)) = true := decide_eq_true c14
     clear c14
     have c15 := O1_ H
     replace H := O2_ H
     have c15b0 := decide_eq_true c15
     clear c15
     have c16 := O1_ H
     replace H := O2_ H
     have c16b0 := decide_eq_true c16
     clear c16
     have c17 := O1_ H
     replace H := O2_ H
     have c17b0 := decide_eq_true c17
     clear c17
     have c18 := O1_ H
     replace H := O2_ H
     have c18b0 := decide_eq_true c18
     clear c18
     have c19 := O1_ H
     replace H := O2_ H
     have c19b0 := decide_eq_true c19
     clear c19
     have c20 := O1_ H
     replace H := O2_ H
     have c20b0 := decide_eq_true c20
     clear c20
     replace H := Option.bind_eq_some_iff.mp H
     obtain ⟨t110, A210, H⟩ := H
     replace H : (if (t110.length : Int) > 0 then (if x7_1.length < 5864062014805 then (z9.l0 k1 a1 (x7_1 ++ [t110]) t104 (t104.length : Int) (wrap64 (x22_1 + 1)) l0_0) else (none)) else (z9.l0 k1 a1 x7_1 t104 (t104.length : Int) (wrap64 (x22_1 + 1)) l0_0)) = some (r1, r2) := H
     have A21 := Aside0.mk A210
     clear A210
     by_cases c22 : (t110.length : Int) > 0
     ·rw [if_pos c22] at H
      have c22b0 : decide (0 < (t110.length : Int)) = true := decide_eq_true c22
      have c22b1 : decide (0 < t110.length) = true := decide_eq_true (by omega)
      clear c22
      have c23 := O1_ H
      replace H := O2_ H
      have LMc23 := Aside0.mk c23
      clear c23
      obtain ⟨y113, hy113⟩ : ∃ y_ : List (List Int), y_ = (x7_1 ++ [t110]) := ⟨_, rfl⟩
      replace H : (z9.l0 k1 a1 y113 t104 (t104.length : Int) (wrap64 (x22_1 + 1)) l0_0) = some (r1, r2) := Y_ hy113 H
      have Ny113 := Aside0.mk hy113
      clear hy113
      have H' := Aside0.mk H
      clear H
      have p107 : 0 ≤ (x22_1 : Int) := D_
      have q107 : x22_1 < (t104.length : Int) := D_
      obtain ⟨ad107, e107, hx107_0⟩ := Kd.at_int (Kd.R_reads' HO_20.out).2.2 x22_1 p107 q107
      cases e107
      replace p107 := eq_true p107
      replace q107 := eq_true q107
      try go_wp2
      replace HO_7 := Aside0.mk (Kd.S_drew HO_7.out)
      replace HO_20 := Aside0.mk (Kd.R_drew HO_20.out)
      replace BK101 := Aside0.mk (blk_drew BK101.out)
      replace BK102 := Aside0.mk (blk_drew BK102.out)
      replace HB := Aside0.mk (below_drew1 HB.out)
      have p108 : 0 ≤ ((rd t104 x22_1) : Int) := D_
      have q108 : (rd t104 x22_1) < (l0_0.length : Int) := D_
      obtain ⟨ad108, A108_0, c108_0, e108, hx108_0, hl108_0, hi108_0⟩ := at_ListInt HR0_0.out (rd t104 x22_1) p108 q108
      have hw108_0 := hx108_0
      cases e108
      replace hx108_0 := (HB.out.cell (World.block_lt_of_cell? w _ hx108_0)).trans hx108_0
      have HR108_0 := Aside0.mk hi108_0
      have HC108_0 := Aside0.mk hl108_0
      clear hi108_0 hl108_0
      replace p108 := eq_true p108
      replace q108 := eq_true q108
      have p109 : 0 ≤ (a1 : Int) := D_
      have q109 : a1 < (l0_0.length : Int) := D_
      obtain ⟨ad109, A109_0, c109_0, e109, hx109_0, hl109_0, hi109_0⟩ := at_ListInt HR0_0.out a1 p109 q109
      have hw109_0 := hx109_0
      obtain rfl : ad108 = ad109 := (by injection e109)
      replace hx109_0 := (HB.out.cell (World.block_lt_of_cell? w _ hx109_0)).trans hx109_0
      have HR109_0 := Aside0.mk hi109_0
      have HC109_0 := Aside0.mk hl109_0
      clear hi109_0 hl109_0
      replace p109 := eq_true p109
      replace q109 := eq_true q109
      refine start_ (n := 12) (S := fun w' => w'.cell? ⟨gb101, 0, none⟩ = some (.slice (some ad108) l0_0.length c0_0) ∧ w'.cell? (ad108.add ((rd t104 x22_1)).toNat) = some (.slice A108_0 (rd_ListInt l0_0 (rd t104 x22_1)).length c108_0) ∧ w'.cell? (ad108.add (a1).toNat) = some (.slice A109_0 (rd_ListInt l0_0 a1).length c109_0)) (ds := []) (tb_ 12 0) (by kernel_rfl) rfl rfl ⟨(blk_cell BK101.out 0).trans rfl, ((HB.out.cell (World.block_lt_of_cell? w _ hw108_0)).trans hw108_0), ((HB.out.cell (World.block_lt_of_cell? w _ hw109_0)).trans hw109_0)⟩ (fun hHeld => ?_); refine with_tabW z9.tab8 z9.bits8 (fun HT_ HW_ => ?_)
      generalize wr.drew = w24 at HO_7 HO_20 BK101 BK102 HB HR108_0 HR109_0 hx108_0 hx109_0 hHeld ⊢
      refine PV_ (i := 0) (N := some 26) (tb_ 12 1) HT_ rfl rfl (h := ?_)
      refine PV_ (i := 2) (N := some 28) (tb_ 12 5) HT_ rfl rfl (h := ?_)
      refine PV_ (i := 5) (N := some 31) (tb_ 12 37) HT_ rfl rfl (h := ?_)
      refine PV_ (i := 7) (N := some 33) (tb_ 12 165) HT_ rfl rfl (h := ?_)
      refine TV_ (i := 1) (N := some 27) (tb_ 12 167) HT_ HW_ rfl rfl hHeld (by rintro w' ⟨s0, s1, s2⟩; go_simp; with_reducible rfl) (h := ?_)
      refine PV_ (i := 3) (N := some 29) (tb_ 12 175) HT_ rfl rfl (h := ?_)
      refine TV_ (i := 4) (N := some 30) (tb_ 12 191) HT_ HW_ rfl rfl hHeld (by rintro w' ⟨s0, s1, s2⟩; go_simp; with_reducible rfl) (h := ?_)
      refine TV_ (i := 6) (N := some 32) (tb_ 12 255) HT_ HW_ rfl rfl hHeld (by rintro w' ⟨s0, s1, s2⟩; go_simp; with_reducible rfl) (h := ?_)
      refine PV_ (i := 8) (N := some 34) (tb_ 12 511) HT_ rfl rfl (h := ?_)
      refine TV_ (i := 9) (N := some 35) (tb_ 12 1023) HT_ HW_ rfl rfl hHeld (by rintro w' ⟨s0, s1, s2⟩; go_simp; with_reducible rfl) (h := ?_)
      refine one_ (i := 10) (N := some 36) (tb_ 12 2047) rfl rfl (one_of HT_.out (by kernel_rfl)) (by decide) (fun K hK => ?_)
      refine GO_ Try.func18 #[.slice A108_0 (rd_ListInt l0_0 (rd t104 x22_1)).length c108_0, .slice A109_0 (rd_ListInt l0_0 a1).length c109_0] (h := ?_)
      with_reducible refine (impl_without.calls _ _ (rd_ListInt l0_0 (rd t104 x22_1)) _ _ (rd_ListInt l0_0 a1) t110 _ ?side1 ?side2 ?side3 ?side4 A21.out).mono ?_
      (case side1 => exact KC_ (Kd.C_below HR108_0.out HB.out))
      (case side2 => exact HC108_0.out)
      (case side3 => exact KC_ (Kd.C_below HR109_0.out HB.out))
      (case side4 => exact HC109_0.out)
      rintro e w25 ⟨v111, rfl, ho0, hb⟩
      refine ⟨_, rfl, ?_⟩
      have n0_ := Aside0.mk (Kd.S_elder' (KS_ HO_7.out) (Kd.R_base ho0) hb)
      have n1_ := Aside0.mk (Kd.R_elder' (KR_ HO_20.out) (Kd.R_base ho0) hb)
      have n2_ := Aside0.mk (Kd.R_lower (Kd.R_new' ho0 (Kd.R_lt (KR_ HO_20.out))) (below_size (B2_ HB.out GE101.out GE102.out)))
      have n3_ := Aside0.mk (blk_below (g := gb101) (o := .cells #[.slice (some ad108) l0_0.length c0_0] 26 (0, 0)) (KB_ BK101.out) hb)
      have n4_ := Aside0.mk (blk_below (g := gb102) (o := .cells #[.slice none 0 0] 26 (0, 0)) (KB_ BK102.out) hb)
      have n5_ := Aside0.mk (below_step (B2_ HB.out GE101.out GE102.out) hb)
      clear HO_7
      clear HO_20
      clear BK101
      clear BK102
      clear HB
      have HO_7 := n0_
      have HO_20 := n1_
      have HO112 := n2_
      have BK101 := n3_
      have BK102 := n4_
      have HB := n5_
      clear n0_ n1_ n2_ n3_ n4_ n5_
      (try clear hb);(try clear hb2);(try clear hk);(try clear hi);(try clear ho0)
      refine hK.out _ _ ⟨(blk_cell BK101.out 0).trans rfl, ((HB.out.cell (World.block_lt_of_cell? w _ hw108_0)).trans hw108_0), ((HB.out.cell (World.block_lt_of_cell? w _ hw109_0)).trans hw109_0)⟩ (fun hHeld => ?_)
      clear hK K
      refine NM_ (N := (some 36)) (h := ?_)
      refine PV_ (i := 11) (N := some 10) (tb_ 12 4095) HT_ rfl rfl (h := ?_)
      refine done_ (done_of HT_.out (by kernel_rfl)) ?_
      obtain ⟨Ao26, co26, eo26⟩ := Kd.R_slice HO112.out
      subst eo26
      try go_wp2_with (first | ((with_reducible refine gate_builtin (b := .append) (xs := #[.tmp 40, .tmp 42]) rfl ?_); at_builtin; refine Kd.S_append (Kd.slice 2 (Kd.int .i64)) (w0 := w) w.heap.size rfl (.tmp 40) (.tmp 42) 24 29 (.slice none 0 0) 24 rfl Try.underlying24 info29 rfl (by decide) (by omega) u7 x7_1 t110 [.slice Ao26 t110.length co26] (fun k_ => some k_ ≠ (.slice (some ad107) t104.length co13 : Value).ownBlock) (fun k_ => some k_ = (.slice Ao26 t110.length co26 : Value).ownBlock) rfl rfl ?aP (fun k_ hk_ => ((Kd.R_mono (ok' := fun k_ => ((fun k_ => some k_ ≠ (.slice (some ad107) t104.length co13 : Value).ownBlock)) k_ ∧ some k_ ≠ (u7 : Value).ownBlock) (Kd.R_apart' (HO112.out) (Kd.S_typed HO_7.out) (by decide)) (fun k_ hk => ⟨hk.1.2, hk.2⟩))).1 k_ hk_.symm) ?aF ?aO ?aB ?aS ?aL ?_; (case aP => exact Kd.M_row (Kd.R_mono (Kd.R_tight rfl (Kd.R_mono (ok' := fun k_ => ((fun k_ => some k_ ≠ (.slice (some ad107) t104.length co13 : Value).ownBlock)) k_ ∧ some k_ ≠ (u7 : Value).ownBlock) (Kd.R_apart' (HO112.out) (Kd.S_typed HO_7.out) (by decide)) (fun k_ hk => ⟨hk.1.2, hk.2⟩))) (fun _ h_ => h_))); (case aB => exact (B2_ HB.out GE101.out GE102.out)); (case aF => exact (fun k_ hk => Kd.fresh' (Kd.R_lt (KR_ HO_20.out)) k_ hk)); (case aO => exact (by (with_reducible repeat (first | apply Kd.S_alloc | apply Kd.S_drewN | apply Kd.S_drew)); exact Kd.S_mono HO_7.out (fun k_ hk => ⟨hk.1, fun e_ => hk.2 e_⟩))); (case aS => exact (below_size (B2_ HB.out GE101.out GE102.out))); (case aL => have := LMc23.out; omega); intro v114 w27 ho hb hg hat; rw [← Ny113.out] at ho; replace HO_20 := Aside0.mk (Kd.R_over' (KR_ HO_20.out) (Kd.S_typed (KS_ HO_7.out)) (by decide) hg); replace BK101 := Aside0.mk (blk_grown (g := gb101) (o := .cells #[.slice (some ad108) l0_0.length c0_0] 26 (0, 0)) (KB_ BK101.out) hg (Kd.S_ne HO_7.out BK101.out (by decide))); replace BK102 := Aside0.mk (blk_grown (g := gb102) (o := .cells #[.slice none 0 0] 26 (0, 0)) (KB_ BK102.out) hg (Kd.S_ne HO_7.out BK102.out (by decide))); replace HB := Aside0.mk (hb); have HO115 := Aside0.mk (ho); clear HO_7; clear HO112; clear ho hb hg hat))
      go_roundg k1
      case measure => exact Q1_ HK1
      case rel => exact ⟨(y113), (wrap64 (x22_1 + 1)), E_, H', ⟨Q1_ HK1⟩, ⟨KS_ HO115.out⟩, ⟨by (with_reducible repeat (first | apply Kd.R_alloc | apply Kd.R_drewN | apply Kd.R_drew)); exact Kd.R_mono HO_20.out (fun _ hk => trivial)⟩, ⟨KB_ BK101.out⟩, ⟨KB_ BK102.out⟩, ⟨B2_ HB.out GE101.out GE102.out⟩⟩
     ·rw [if_neg c22] at H
      have c22b0 : decide (0 < (t110.length : Int)) = false := decide_eq_false c22
      have c22b1 : decide (0 < t110.length) = false := decide_eq_false (by omega)
      clear c22
      have H' := Aside0.mk H
      clear H
      have p107 : 0 ≤ (x22_1 : Int) := D_
      have q107 : x22_1 < (t104.length : Int) := D_
      obtain ⟨ad107, e107, hx107_0⟩ := Kd.at_int (Kd.R_reads' HO_20.out).2.2 x22_1 p107 q107
      cases e107
      replace p107 := eq_true p107
      replace q107 := eq_true q107
      try go_wp2
      replace HO_7 := Aside0.mk (Kd.S_drew HO_7.out)
      replace HO_20 := Aside0.mk (Kd.R_drew HO_20.out)
      replace BK101 := Aside0.mk (blk_drew BK101.out)
      replace BK102 := Aside0.mk (blk_drew BK102.out)
      replace HB := Aside0.mk (below_drew1 HB.out)
      have p108 : 0 ≤ ((rd t104 x22_1) : Int) := D_
      have q108 : (rd t104 x22_1) < (l0_0.length : Int) := D_
      obtain ⟨ad108, A108_0, c108_0, e108, hx108_0, hl108_0, hi108_0⟩ := at_ListInt HR0_0.out (rd t104 x22_1) p108 q108
      have hw108_0 := hx108_0
      cases e108
      replace hx108_0 := (HB.out.cell (World.block_lt_of_cell? w _ hx108_0)).trans hx108_0
      have HR108_0 := Aside0.mk hi108_0
      have HC108_0 := Aside0.mk hl108_0
      clear hi108_0 hl108_0
      replace p108 := eq_true p108
      replace q108 := eq_true q108
      have p109 : 0 ≤ (a1 : Int) := D_
      have q109 : a1 < (l0_0.length : Int) := D_
      obtain ⟨ad109, A109_0, c109_0, e109, hx109_0, hl109_0, hi109_0⟩ := at_ListInt HR0_0.out a1 p109 q109
      have hw109_0 := hx109_0
      obtain rfl : ad108 = ad109 := (by injection e109)
      replace hx109_0 := (HB.out.cell (World.block_lt_of_cell? w _ hx109_0)).trans hx109_0
      have HR109_0 := Aside0.mk hi109_0
      have HC109_0 := Aside0.mk hl109_0
      clear hi109_0 hl109_0
      replace p109 := eq_true p109
      replace q109 := eq_true q109
      refine start_ (n := 12) (S := fun w' => w'.cell? ⟨gb101, 0, none⟩ = some (.slice (some ad108) l0_0.length c0_0) ∧ w'.cell? (ad108.add ((rd t104 x22_1)).toNat) = some (.slice A108_0 (rd_ListInt l0_0 (rd t104 x22_1)).length c108_0) ∧ w'.cell? (ad108.add (a1).toNat) = some (.slice A109_0 (rd_ListInt l0_0 a1).length c109_0)) (ds := []) (tb_ 12 0) (by kernel_rfl) rfl rfl ⟨(blk_cell BK101.out 0).trans rfl, ((HB.out.cell (World.block_lt_of_cell? w _ hw108_0)).trans hw108_0), ((HB.out.cell (World.block_lt_of_cell? w _ hw109_0)).trans hw109_0)⟩ (fun hHeld => ?_); refine with_tabW z9.tab8 z9.bits8 (fun HT_ HW_ => ?_)
      generalize wr.drew = w28 at HO_7 HO_20 BK101 BK102 HB HR108_0 HR109_0 hx108_0 hx109_0 hHeld ⊢
      refine PV_ (i := 0) (N := some 26) (tb_ 12 1) HT_ rfl rfl (h := ?_)
      refine PV_ (i := 2) (N := some 28) (tb_ 12 5) HT_ rfl rfl (h := ?_)
      refine PV_ (i := 5) (N := some 31) (tb_ 12 37) HT_ rfl rfl (h := ?_)
      refine PV_ (i := 7) (N := some 33) (tb_ 12 165) HT_ rfl rfl (h := ?_)
      refine TV_ (i := 1) (N := some 27) (tb_ 12 167) HT_ HW_ rfl rfl hHeld (by rintro w' ⟨s0, s1, s2⟩; go_simp; with_reducible rfl) (h := ?_)
      refine PV_ (i := 3) (N := some 29) (tb_ 12 175) HT_ rfl rfl (h := ?_)
      refine TV_ (i := 4) (N := some 30) (tb_ 12 191) HT_ HW_ rfl rfl hHeld (by rintro w' ⟨s0, s1, s2⟩; go_simp; with_reducible rfl) (h := ?_)
      refine TV_ (i := 6) (N := some 32) (tb_ 12 255) HT_ HW_ rfl rfl hHeld (by rintro w' ⟨s0, s1, s2⟩; go_simp; with_reducible rfl) (h := ?_)
      refine PV_ (i := 8) (N := some 34) (tb_ 12 511) HT_ rfl rfl (h := ?_)
      refine TV_ (i := 9) (N := some 35) (tb_ 12 1023) HT_ HW_ rfl rfl hHeld (by rintro w' ⟨s0, s1, s2⟩; go_simp; with_reducible rfl) (h := ?_)
      refine one_ (i := 10) (N := some 36) (tb_ 12 2047) rfl rfl (one_of HT_.out (by kernel_rfl)) (by decide) (fun K hK => ?_)
      refine GO_ Try.func18 #[.slice A108_0 (rd_ListInt l0_0 (rd t104 x22_1)).length c108_0, .slice A109_0 (rd_ListInt l0_0 a1).length c109_0] (h := ?_)
      with_reducible refine (impl_without.calls _ _ (rd_ListInt l0_0 (rd t104 x22_1)) _ _ (rd_ListInt l0_0 a1) t110 _ ?side1 ?side2 ?side3 ?side4 A21.out).mono ?_
      (case side1 => exact KC_ (Kd.C_below HR108_0.out HB.out))
      (case side2 => exact HC108_0.out)
      (case side3 => exact KC_ (Kd.C_below HR109_0.out HB.out))
      (case side4 => exact HC109_0.out)
      rintro e w29 ⟨v111, rfl, ho0, hb⟩
      refine ⟨_, rfl, ?_⟩
      have n0_ := Aside0.mk (Kd.S_elder' (KS_ HO_7.out) (Kd.R_base ho0) hb)
      have n1_ := Aside0.mk (Kd.R_elder' (KR_ HO_20.out) (Kd.R_base ho0) hb)
      have n2_ := Aside0.mk (Kd.R_lower (Kd.R_new' ho0 (Kd.R_lt (KR_ HO_20.out))) (below_size (B2_ HB.out GE101.out GE102.out)))
      have n3_ := Aside0.mk (blk_below (g := gb101) (o := .cells #[.slice (some ad108) l0_0.length c0_0] 26 (0, 0)) (KB_ BK101.out) hb)
      have n4_ := Aside0.mk (blk_below (g := gb102) (o := .cells #[.slice none 0 0] 26 (0, 0)) (KB_ BK102.out) hb)
      have n5_ := Aside0.mk (below_step (B2_ HB.out GE101.out GE102.out) hb)
      clear HO_7
      clear HO_20
      clear BK101
      clear BK102
      clear HB
      have HO_7 := n0_
      have HO_20 := n1_
      have HO112 := n2_
      have BK101 := n3_
      have BK102 := n4_
      have HB := n5_
      clear n0_ n1_ n2_ n3_ n4_ n5_
      (try clear hb);(try clear hb2);(try clear hk);(try clear hi);(try clear ho0)
      refine hK.out _ _ ⟨(blk_cell BK101.out 0).trans rfl, ((HB.out.cell (World.block_lt_of_cell? w _ hw108_0)).trans hw108_0), ((HB.out.cell (World.block_lt_of_cell? w _ hw109_0)).trans hw109_0)⟩ (fun hHeld => ?_)
      clear hK K
      refine NM_ (N := (some 36)) (h := ?_)
      refine PV_ (i := 11) (N := some 10) (tb_ 12 4095) HT_ rfl rfl (h := ?_)
      refine done_ (done_of HT_.out (by kernel_rfl)) ?_
      obtain ⟨Ao30, co30, eo30⟩ := Kd.R_slice HO112.out
      subst eo30
      try go_wp2
      go_roundg k1
      case measure => exact Q1_ HK1
      case rel => exact ⟨(x7_1), (wrap64 (x22_1 + 1)), E_, H', ⟨Q1_ HK1⟩, ⟨by (with_reducible repeat (first | apply Kd.S_alloc | apply Kd.S_drewN | apply Kd.S_drew)); exact Kd.S_mono HO_7.out (fun _ hk => hk.1)⟩, ⟨by (with_reducible repeat (first | apply Kd.R_alloc | apply Kd.R_drewN | apply Kd.R_drew)); exact Kd.R_mono HO_20.out (fun _ hk => trivial)⟩, ⟨KB_ BK101.out⟩, ⟨KB_ BK102.out⟩, ⟨B2_ HB.out GE101.out GE102.out⟩⟩
    ·rw [if_neg c14] at H
     have c14b0 : decide (x22_1 < (t104.length : Int)) = false := decide_eq_false c14
     clear c14
     replace H := Option.bind_eq_some_iff.mp H
     obtain ⟨t116, A310, H⟩ := H
     replace H : (some (t116, 0)) = some (r1, r2) := H
     have A31 := Aside0.mk A310
     clear A310
     simp only [Option.some.injEq, Prod.mk.injEq] at H
     obtain ⟨rfl, rfl⟩ := H
     obtain ⟨Ao32, co32, eo32⟩ := Kd.S_slice HO_7.out
     subst eo32
     go_wp2_with (first | ((with_reducible refine gate_callee (f := 19) rfl ?_); refine goesL_ (some 46) rfl rfl Try.func19 (by kernel_rfl) rfl #[.slice Ao32 x7_1.length co32] rfl (by (try simp only [List.map_toArray, List.map_cons, List.map_nil]); first | done | rfl | (simp only [List.length_drop, List.length_take]; rfl)) ?_; (with_reducible refine (impl_inOrder.calls _ _ x7_1 t116 _ ?side1 ?side2 A31.out).mono ?_); (case side1 => exact KC_ (Kd.S_reads' HO_7.out).2.2); (case side2 => exact (Kd.S_reads' HO_7.out).2.1); rintro e w33 ⟨v117, rfl, ho0, hb⟩; refine ⟨_, rfl, ?_⟩; have n0_ := Aside0.mk (Kd.S_elder' (KS_ HO_7.out) (Kd.S_base ho0) hb); have n1_ := Aside0.mk (Kd.R_below (KR_ HO_20.out) hb); have n2_ := Aside0.mk (Kd.S_lower (Kd.S_new' (Kd.S_new' ho0 (Kd.S_lt (KS_ HO_7.out))) (Kd.R_lt (KR_ HO_20.out))) (below_size (B2_ HB.out GE101.out GE102.out))); have n3_ := Aside0.mk (blk_below (g := gb101) (o := .cells #[.slice A0_0 l0_0.length c0_0] 26 (0, 0)) (KB_ BK101.out) hb); have n4_ := Aside0.mk (blk_below (g := gb102) (o := .cells #[.slice none 0 0] 26 (0, 0)) (KB_ BK102.out) hb); have n5_ := Aside0.mk (below_step (B2_ HB.out GE101.out GE102.out) hb); clear HO_7; clear HO_20; clear BK101; clear BK102; clear HB; have HO_7 := n0_; have HO_20 := n1_; have HO118 := n2_; have BK101 := n3_; have BK102 := n4_; have HB := n5_; clear n0_ n1_ n2_ n3_ n4_ n5_; (try clear hb); (try clear hb2); (try clear hk); (try clear hi); (try clear ho0); obtain ⟨Ao34, co34, eo34⟩ := Kd.S_slice HO118.out; subst eo34; have hnb35 := NB102_101.out; have hnc35 := NB101_102.out; have hcz36_0 : w33.cell? ⟨gb102, 0, none⟩ = some (.slice none 0 0) := (blk_cell BK102.out 0).trans rfl; have hfz36_0 := blk_frozen BK102.out 0))
     refine bodyPost_ret (results_ct rfl _ _ gb102 26 #[.slice Ao34 t116.length co34] (0, 0) _ rfl (by (with_reducible repeat (first | refine blk_drewN ?_ _ | refine blk_drew ?_ | refine blk_alloc ?_ _)); refine blk_put (cs := #[.slice none 0 0]) ?_ 0 _ rfl; (with_reducible repeat (first | refine blk_drewN ?_ _ | refine blk_drew ?_ | refine blk_alloc ?_ _)); exact BK102.out) Try.underlying26 rfl (by kernel_rfl)) rfl ?_
     exact ⟨_, F_, by (with_reducible repeat (first | apply Kd.S_alloc | apply Kd.S_drewN | apply Kd.S_drew)); exact Kd.S_mono (Kd.S_far (p := ⟨gb102, 0, none⟩) (Kd.S_types HO118.out BK102.out (by decide)) (fun _ hk => hk.2) (.slice Ao34 t116.length co34)) (fun _ hk => trivial), B2_ HB.out GE101.out GE102.out⟩
 ·rw [if_neg c4] at H
  have c4b0 : (t103 == 0) = false := beq_eq_false_iff_ne.mpr c4
  have c4b1 : (t103 != 0) = true := bne_iff_ne.mpr c4
  simp only [Option.some.injEq, Prod.mk.injEq] at H
  obtain ⟨rfl, rfl⟩ := H
  go_enter Try.func9, Try.ntmps9
  go_wp2_with (first | ((with_reducible refine gate_dst (N := 2) rfl ?_); refine box_event ?hg (N := 2) ?hd (cs := #[.slice A0_0 l0_0.length c0_0]) (t := 26) ?hr ?_; (case hd => rfl); (case hg => rfl); (case hr => first | (go_simp; done) | (go_simp; rfl)); intro gb101 hg w37 hbox hb; have n0_ := Aside0.mk (below_step (B_ HB.out) hb); have n1_ := Aside0.mk (hbox); have n2_ := Aside0.mk ((by rw [hg]; exact (below_size (B_ HB.out)) : w.heap.size ≤ gb101)); have n3_ := Aside0.mk ((by rw [hg]; exact (below_size (B_ HB.out)) : w.heap.size ≤ gb101)); clear HB; have HB := n0_; have BK101 := n1_; have GW101 := n2_; have GE101 := n3_; clear n0_ n1_ n2_ n3_; clear hb hbox hg) | ((with_reducible refine gate_dst (N := 4) rfl ?_); refine box_event ?hg (N := 4) ?hd (cs := #[.slice none 0 0]) (t := 26) ?hr ?_; (case hd => rfl); (case hg => rfl); (case hr => first | (go_simp; done) | (go_simp; rfl)); intro gb102 hg w38 hbox hb; have n0_ := Aside0.mk (blk_below (g := gb101) (o := .cells #[.slice A0_0 l0_0.length c0_0] 26 (0, 0)) (KB_ BK101.out) hb); have n1_ := Aside0.mk (below_step (B1_ HB.out GE101.out) hb); have n2_ := Aside0.mk (hbox); have n3_ := Aside0.mk ((by rw [hg]; exact (below_size (B1_ HB.out GE101.out)) : w.heap.size ≤ gb102)); have n4_ := Aside0.mk ((by rw [hg]; exact (below_size (B1_ HB.out GE101.out)) : w.heap.size ≤ gb102)); have n5_ := Aside0.mk ((by rw [hg]; exact Nat.ne_of_lt (blk_lt (g := gb101) (o := .cells #[.slice A0_0 l0_0.length c0_0] 26 (0, 0)) (KB_ BK101.out)) : gb101 ≠ gb102)); have n6_ := Aside0.mk ((by rw [hg]; exact Nat.ne_of_gt (blk_lt (g := gb101) (o := .cells #[.slice A0_0 l0_0.length c0_0] 26 (0, 0)) (KB_ BK101.out)) : gb102 ≠ gb101)); clear BK101; clear HB; have BK101 := n0_; have HB := n1_; have BK102 := n2_; have GW102 := n3_; have GE102 := n4_; have NB101_102 := n5_; have NB102_101 := n6_; clear n0_ n1_ n2_ n3_ n4_ n5_ n6_; clear hb hbox hg; have hnb39 := NB101_102.out; have hnc39 := NB102_101.out; have hcz40_0 : w38.cell? ⟨gb101, 0, none⟩ = some (.slice A0_0 l0_0.length c0_0) := (blk_cell BK101.out 0).trans rfl; have hfz40_0 := blk_frozen BK101.out 0) | ((with_reducible refine gate_callee (f := 15) rfl ?_); refine goesL_ (some 13) rfl rfl Try.func15 (by kernel_rfl) rfl #[.agg #[.slice A0_0 l0_0.length c0_0], .int .i64 a1] rfl (by (try simp only [List.map_toArray, List.map_cons, List.map_nil]); first | done | rfl | (simp only [List.length_drop, List.length_take]; rfl)) ?_; (with_reducible refine (z15.calls k _ _ l0_0 a1 t103 _ ?side1 ?side2 A3.out).mono ?_); (case side1 => exact KC_ (Kd.C_below HR0_0.out HB.out)); (case side2 => exact HC0_0.out); rintro e w41 ⟨rfl, hb⟩; refine ⟨_, rfl, ?_⟩; replace BK101 := Aside0.mk (blk_below (g := gb101) (o := .cells #[.slice A0_0 l0_0.length c0_0] 26 (0, 0)) (KB_ BK101.out) hb); replace BK102 := Aside0.mk (blk_below (g := gb102) (o := .cells #[.slice none 0 0] 26 (0, 0)) (KB_ BK102.out) hb); replace HB := Aside0.mk (below_step (B2_ HB.out GE101.out GE102.out) hb); (try clear hb); (try clear hb2); (try clear hk); (try clear hi); have hcz42_0 : w41.cell? ⟨gb102, 0, none⟩ = some (.slice none 0 0) := (blk_cell BK102.out 0).trans rfl; have hfz42_0 := blk_frozen BK102.out 0))
  refine bodyPost_ret (results_ct rfl _ _ gb102 26 #[.slice none 0 0] (0, 0) _ rfl (by (with_reducible repeat (first | refine blk_drewN ?_ _ | refine blk_drew ?_ | refine blk_alloc ?_ _)); refine blk_put (cs := #[.slice none 0 0]) ?_ 0 _ rfl; (with_reducible repeat (first | refine blk_drewN ?_ _ | refine blk_drew ?_ | refine blk_alloc ?_ _)); exact BK102.out) Try.underlying26 rfl (by kernel_rfl)) rfl ?_
  exact ⟨_, F_, by first | exact Kd.S_nil _ _ _ _ _ | exact Kd.N_nil _ _ _ _ _ | exact Kd.V_nil _ _ _ _ _ | exact Kd.Q_nil _ _ _ _ _ | exact Kd.R_nil _ _ _ _ _, B2_ HB.out GE101.out GE102.out⟩
end Go.Proofs.Ytidfblakgolbpaa.B
