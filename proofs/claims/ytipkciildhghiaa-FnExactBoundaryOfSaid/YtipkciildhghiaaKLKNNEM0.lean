/- Printed proofs of functions of the program and of the reference, by a program of this work over the kit's printer. -/
import Derived.Test.YtipkciildhghiaaKHGNPLP0
import Derived.Test.YtipkciildhghiaaKOILLIC0
import Derived.Test.YtipkciildhghiaaKW0
namespace Go.Proofs.Ytipkciildhghiaa.B
open Go.RowKit Go.Proofs.YtipkciildhghiaaW.PrintWords Go.Proofs.YtipkciildhghiaaW.PrintLast Go.Proofs.YtipkciildhghiaaW.PrintMore
attribute [local go_sem] max2_int min2_int max_two min_two max_three min_three max_four min_four
set_option linter.unusedVariables false
set_option linter.unusedSimpArgs false
mutual
def z95.l0 : Nat → Int → Int → List Int → List Int → Int → List (List Int) → Int → Int → Int → List Int → Option (Int × Int × Int × List Int)
 | 0, _, _, _, _, _, _, _, _, _, _ => none
 | k + 1, x1, x2, x7, x8, x10, x51000, x115000, x115001, x115002, x115003 => if x10 < (x7.length : Int) then (z95.j1 k x1 x2 x7 x8 x10 (decide (x1 > 0)) x51000 x115000 x115001 x115002 x115003) else (z95.j1 k x1 x2 x7 x8 x10 false x51000 x115000 x115001 x115002 x115003)
def z95.j1 : Nat → Int → Int → List Int → List Int → Int → Bool → List (List Int) → Int → Int → Int → List Int → Option (Int × Int × Int × List Int)
 | 0, _, _, _, _, _, _, _, _, _, _, _ => none
 | k + 1, x1, x2, x7, x8, x10, x33, x51000, x115000, x115001, x115002, x115003 => if x33 = true then (if 0 ≤ x10 then (if x10 < (x7.length : Int) then ((z135.f k x51000 (rd x7 x10)).bind fun t116 => (z95.l1 k x1 x2 x7 x8 x10 t116 0 x51000 x115000 x115001 x115002 x115003)) else (none)) else (none)) else (some (x115000, x115001, x115002, x115003))
def z95.l1 : Nat → Int → Int → List Int → List Int → Int → List Int → Int → List (List Int) → Int → Int → Int → List Int → Option (Int × Int × Int × List Int)
 | 0, _, _, _, _, _, _, _, _, _, _, _, _ => none
 | k + 1, x1, x2, x7, x8, x10, x11, x12, x51000, x115000, x115001, x115002, x115003 => if x12 < (x11.length : Int) then (if 0 ≤ x12 then (if 0 < (x8.length : Int) then ((z136.f x12 x2).bind fun t121 => (if 0 ≤ (wrap64 ((wrap64 ((wrap64 ((rd x11 x12) - (rd x8 0))) * x115002)) + x10)) then (if (wrap64 ((wrap64 ((wrap64 ((rd x11 x12) - (rd x8 0))) * x115002)) + x10)) < (x115003.length : Int) then (z95.l1 k x1 x2 x7 x8 x10 x11 (wrap64 (x12 + 1)) x51000 x115000 x115001 x115002 (x115003.set ((wrap64 ((wrap64 ((wrap64 ((rd x11 x12) - (rd x8 0))) * x115002)) + x10)) : Int).toNat t121)) else (none)) else (none))) else (none)) else (none)) else (z95.l0 k x1 x2 x7 x8 (wrap64 (x10 + 1)) x51000 x115000 x115001 x115002 x115003)
end
def z95.f (k : Nat) (l0_0 : List (List Int)) (a1 : Int) (a2 : Int) : Option (Int × Int × Int × List Int) := (z89.f k l0_0 a1).bind fun t102 => ((z89.f k l0_0 (wrap64 (a1 - 1))).bind fun t105 => ((z134.f a2 (t105.length : Int) (t102.length : Int)).bind fun bt108 => (z95.l0 k a1 a2 t102 t105 0 l0_0 bt108.1 bt108.2.1 bt108.2.2.1 bt108.2.2.2)))
def z95.T11 : Bool × List (List Nat × List Nat) := (true, [([], []), ([0], [0]), ([], []), ([], []), ([2, 3], [2, 3]), ([4], [4]), ([], []), ([6], [6]), ([7], [7]), ([5, 8], [5, 8]), ([], []), ([10], [10]), ([9, 11], [9, 11]), ([], []), ([12, 13], [12, 13]), ([], []), ([], []), ([15, 16], [15, 16]), ([1, 14, 0, 1, 2, 3, 4, 5, 6, 7, 8, 9, 10, 11, 12, 13, 14, 15, 16, 17], [1, 14]), ([18, 17, 17, 0, 1, 2, 3, 4, 5, 6, 7, 8, 9, 10, 11, 12, 13, 14, 15, 16, 17], [17, 18])])
def z95.B11 : List Nat := [0, 1, 0, 0, 12, 28, 0, 64, 192, 508, 0, 1024, 4092, 0, 16380, 0, 0, 98304, 262143, 524287]
theorem z95.tab11 : rtab .any (opsOf Try.f95 11) = z95.T11 := by kernel_rfl
theorem z95.bits11 : waitsOk z95.T11.2 z95.B11 = true := by kernel_rfl
set_option maxHeartbeats 8000000 in
set_option maxRecDepth 100000 in
theorem z95.calls (k : Nat) (gp0 : Nat) (A0_0 : Option Addr) (c0_0 : Nat) (l0_0 : List (List Int)) (a1 : Int) (a2 : Int) (r1 : Int) (r2 : Int) (r3 : Int) (r4 : List Int) (w : World) (hbp0 : w.heap[gp0]? = some (.cells #[.slice A0_0 l0_0.length c0_0] 29 (0, 0))) (hr0_0 : Kd.C (Kd.slice 2 (Kd.int .i64)) w A0_0 l0_0.length l0_0) (hc0_0 : l0_0.length ≤ c0_0) (h : z95.f k l0_0 a1 a2 = some (r1, r2, r3, r4)) :
  Calls Try.prog 95 #[.pointer (some ⟨gp0, 0, none⟩), .int .i64 a1, .int .i64 a2] w fun e w' => ∃ v3_ : Value, e = .returned (.agg #[.int .i64 r1, .int .i64 r2, .int .i64 r3, v3_]) ∧ Kd.R (Kd.int .i64) 2 w' w.heap.size (fun _ => True) v3_ r4 ∧ Below w.heap.size w w' := by
 have hu48 := Try.underlying48
 have HR0_0 := Aside0.mk hr0_0
 have HC0_0 := Aside0.mk hc0_0
 clear hr0_0 hc0_0
 have BK50 := Aside0.mk hbp0
 clear hbp0
 have HB := Aside0.mk (Below.refl w.heap.size w)
 have H : ((z89.f k l0_0 a1).bind fun t102 => ((z89.f k l0_0 (wrap64 (a1 - 1))).bind fun t105 => ((z134.f a2 (t105.length : Int) (t102.length : Int)).bind fun bt108 => (z95.l0 k a1 a2 t102 t105 0 l0_0 bt108.1 bt108.2.1 bt108.2.2.1 bt108.2.2.2)))) = some (r1, r2, r3, r4) := h
 clear h
 replace H := Option.bind_eq_some_iff.mp H
 obtain ⟨t102, A40, H⟩ := H
 replace H : ((z89.f k l0_0 (wrap64 (a1 - 1))).bind fun t105 => ((z134.f a2 (t105.length : Int) (t102.length : Int)).bind fun bt108 => (z95.l0 k a1 a2 t102 t105 0 l0_0 bt108.1 bt108.2.1 bt108.2.2.1 bt108.2.2.2))) = some (r1, r2, r3, r4) := H
 have A4 := Aside0.mk A40
 clear A40
 replace H := Option.bind_eq_some_iff.mp H
 obtain ⟨t105, A50, H⟩ := H
 replace H : ((z134.f a2 (t105.length : Int) (t102.length : Int)).bind fun bt108 => (z95.l0 k a1 a2 t102 t105 0 l0_0 bt108.1 bt108.2.1 bt108.2.2.1 bt108.2.2.2)) = some (r1, r2, r3, r4) := H
 have A5 := Aside0.mk A50
 clear A50
 replace H := Option.bind_eq_some_iff.mp H
 obtain ⟨⟨t108, t109, t110, t111⟩, A60, H⟩ := H
 replace H : (z95.l0 k a1 a2 t102 t105 0 l0_0 t108 t109 t110 t111) = some (r1, r2, r3, r4) := H
 have A6 := Aside0.mk A60
 clear A60
 have H' := Aside0.mk H
 clear H
 go_enter Try.func95, Try.ntmps95
 go_wp2_with (first | ((with_reducible refine gate_dst (N := 6) rfl ?_); refine box_event ?hg (N := 6) ?hd (cs := #[.int .i64 0, .int .i64 0, .int .i64 0, .slice none 0 0]) (t := 48) ?hr ?_; (case hd => rfl); (case hg => rfl); (case hr => first | (go_simp; done) | (go_simp; rfl)); intro gb101 hg w7 hbox hb; have n0_ := Aside0.mk (blk_below (g := gp0) (o := .cells #[.slice A0_0 l0_0.length c0_0] 29 (0, 0)) (KB_ BK50.out) hb); have n1_ := Aside0.mk (below_step (B_ HB.out) hb); have n2_ := Aside0.mk (hbox); have n3_ := Aside0.mk ((by rw [hg]; exact (below_size (B_ HB.out)) : w.heap.size ≤ gb101)); have n4_ := Aside0.mk ((by rw [hg]; exact (below_size (B_ HB.out)) : w.heap.size ≤ gb101)); have n5_ := Aside0.mk ((by rw [hg]; exact Nat.ne_of_lt (blk_lt (g := gp0) (o := .cells #[.slice A0_0 l0_0.length c0_0] 29 (0, 0)) (KB_ BK50.out)) : gp0 ≠ gb101)); have n6_ := Aside0.mk ((by rw [hg]; exact Nat.ne_of_gt (blk_lt (g := gp0) (o := .cells #[.slice A0_0 l0_0.length c0_0] 29 (0, 0)) (KB_ BK50.out)) : gb101 ≠ gp0)); clear BK50; clear HB; have BK50 := n0_; have HB := n1_; have BK101 := n2_; have GW101 := n3_; have GE101 := n4_; have NB50_101 := n5_; have NB101_50 := n6_; clear n0_ n1_ n2_ n3_ n4_ n5_ n6_; clear hb hbox hg) | ((with_reducible refine gate_callee (f := 89) rfl ?_); refine goesL_ (some 15) rfl rfl Try.func89 (by kernel_rfl) rfl #[.pointer (some ⟨gp0, 0, none⟩), .int .i64 a1] rfl (by (try simp only [List.map_toArray, List.map_cons, List.map_nil]); first | done | rfl | (simp only [List.length_drop, List.length_take]; rfl)) ?_; (with_reducible refine (z89.calls k gp0 A0_0 c0_0 l0_0 a1 t102 _ ?side1 ?side2 ?side3 A4.out).mono ?_); (case side1 => (with_reducible repeat (first | refine blk_drewN ?_ _ | refine blk_drew ?_ | refine blk_alloc ?_ _)); exact BK50.out); (case side2 => exact KC_ (Kd.C_below HR0_0.out HB.out)); (case side3 => exact HC0_0.out); rintro e w8 ⟨v103, rfl, ho0, hb⟩; refine ⟨_, rfl, ?_⟩; have HO104 := Aside0.mk (Kd.R_lower ho0 (below_size (B1_ HB.out GE101.out))); replace BK50 := Aside0.mk (blk_below (g := gp0) (o := .cells #[.slice A0_0 l0_0.length c0_0] 29 (0, 0)) (KB_ BK50.out) hb); replace BK101 := Aside0.mk (blk_below (g := gb101) (o := .cells #[.int .i64 0, .int .i64 0, .int .i64 0, .slice none 0 0] 48 (0, 0)) (KB_ BK101.out) hb); replace HB := Aside0.mk (below_step (B1_ HB.out GE101.out) hb); (try clear hb); (try clear hb2); (try clear hk); (try clear hi); (try clear ho0)) | ((with_reducible refine gate_callee (f := 89) rfl ?_); refine goesL_ (some 19) rfl rfl Try.func89 (by kernel_rfl) rfl #[.pointer (some ⟨gp0, 0, none⟩), .int .i64 (wrap64 (a1 - 1))] rfl (by (try simp only [List.map_toArray, List.map_cons, List.map_nil]); first | done | rfl | (simp only [List.length_drop, List.length_take]; rfl)) ?_; (with_reducible refine (z89.calls k gp0 A0_0 c0_0 l0_0 (wrap64 (a1 - 1)) t105 _ ?side1 ?side2 ?side3 A5.out).mono ?_); (case side1 => (with_reducible repeat (first | refine blk_drewN ?_ _ | refine blk_drew ?_ | refine blk_alloc ?_ _)); exact BK50.out); (case side2 => exact KC_ (Kd.C_below HR0_0.out HB.out)); (case side3 => exact HC0_0.out); rintro e w9 ⟨v106, rfl, ho0, hb⟩; refine ⟨_, rfl, ?_⟩; have n0_ := Aside0.mk (Kd.R_elder' (KR_ HO104.out) (Kd.R_base ho0) hb); have n1_ := Aside0.mk (Kd.R_lower (Kd.R_new' ho0 (Kd.R_lt (KR_ HO104.out))) (below_size (B1_ HB.out GE101.out))); have n2_ := Aside0.mk (blk_below (g := gp0) (o := .cells #[.slice A0_0 l0_0.length c0_0] 29 (0, 0)) (KB_ BK50.out) hb); have n3_ := Aside0.mk (blk_below (g := gb101) (o := .cells #[.int .i64 0, .int .i64 0, .int .i64 0, .slice none 0 0] 48 (0, 0)) (KB_ BK101.out) hb); have n4_ := Aside0.mk (below_step (B1_ HB.out GE101.out) hb); clear HO104; clear BK50; clear BK101; clear HB; have HO104 := n0_; have HO107 := n1_; have BK50 := n2_; have BK101 := n3_; have HB := n4_; clear n0_ n1_ n2_ n3_ n4_; (try clear hb); (try clear hb2); (try clear hk); (try clear hi); (try clear ho0); obtain ⟨Ao10, co10, eo10⟩ := Kd.R_slice HO107.out; subst eo10; obtain ⟨Ao11, co11, eo11⟩ := Kd.R_slice HO104.out; subst eo11) | ((with_reducible refine gate_callee (f := 134) rfl ?_); refine goesL_ (some 25) rfl rfl Try.func134 (by kernel_rfl) rfl #[.int .i64 a2, .int .i64 (t105.length : Int), .int .i64 (t102.length : Int)] rfl (by (try simp only [List.map_toArray, List.map_cons, List.map_nil]); first | done | rfl | (simp only [List.length_drop, List.length_take]; rfl)) ?_; (with_reducible refine (z134.calls a2 (t105.length : Int) (t102.length : Int) t108 t109 t110 t111 _ A6.out).mono ?_); rintro e w12 ⟨v112, rfl, ho0, hb⟩; refine ⟨_, rfl, ?_⟩; have n0_ := Aside0.mk (Kd.R_elder' (KR_ HO104.out) (Kd.R_base ho0) hb); have n1_ := Aside0.mk (Kd.R_elder' (KR_ HO107.out) (Kd.R_base ho0) hb); have n2_ := Aside0.mk (Kd.R_lower (Kd.R_new' (Kd.R_new' ho0 (Kd.R_lt (KR_ HO104.out))) (Kd.R_lt (KR_ HO107.out))) (below_size (B1_ HB.out GE101.out))); have n3_ := Aside0.mk (blk_below (g := gp0) (o := .cells #[.slice A0_0 l0_0.length c0_0] 29 (0, 0)) (KB_ BK50.out) hb); have n4_ := Aside0.mk (blk_below (g := gb101) (o := .cells #[.int .i64 0, .int .i64 0, .int .i64 0, .slice none 0 0] 48 (0, 0)) (KB_ BK101.out) hb); have n5_ := Aside0.mk (below_step (B1_ HB.out GE101.out) hb); clear HO104; clear HO107; clear BK50; clear BK101; clear HB; have HO104 := n0_; have HO107 := n1_; have HO113 := n2_; have BK50 := n3_; have BK101 := n4_; have HB := n5_; clear n0_ n1_ n2_ n3_ n4_ n5_; (try clear hb); (try clear hb2); (try clear hk); (try clear hi); (try clear ho0)) | ((with_reducible refine gate_dst (N := 9) rfl ?_); refine box_event ?hg (N := 9) ?hd (cs := #[.int .i64 0, .int .i64 0, .int .i64 0, .slice none 0 0]) (t := 48) ?hr ?_; (case hd => rfl); (case hg => rfl); (case hr => first | (go_simp; done) | (go_simp; rfl)); intro gb114 hg w13 hbox hb; have n0_ := Aside0.mk (Kd.R_below (KR_ HO104.out) hb); have n1_ := Aside0.mk (Kd.R_below (KR_ HO107.out) hb); have n2_ := Aside0.mk (Kd.R_below (KR_ HO113.out) hb); have n3_ := Aside0.mk (blk_below (g := gp0) (o := .cells #[.slice A0_0 l0_0.length c0_0] 29 (0, 0)) (KB_ BK50.out) hb); have n4_ := Aside0.mk (blk_below (g := gb101) (o := .cells #[.int .i64 0, .int .i64 0, .int .i64 0, .slice none 0 0] 48 (0, 0)) (KB_ BK101.out) hb); have n5_ := Aside0.mk (below_step (B1_ HB.out GE101.out) hb); have n6_ := Aside0.mk (hbox); have n7_ := Aside0.mk ((by rw [hg]; exact (below_size (B1_ HB.out GE101.out)) : w.heap.size ≤ gb114)); have n8_ := Aside0.mk ((by rw [hg]; exact (below_size (B1_ HB.out GE101.out)) : w.heap.size ≤ gb114)); have n9_ := Aside0.mk ((by rw [hg]; exact Nat.ne_of_lt (blk_lt (g := gp0) (o := .cells #[.slice A0_0 l0_0.length c0_0] 29 (0, 0)) (KB_ BK50.out)) : gp0 ≠ gb114)); have n10_ := Aside0.mk ((by rw [hg]; exact Nat.ne_of_gt (blk_lt (g := gp0) (o := .cells #[.slice A0_0 l0_0.length c0_0] 29 (0, 0)) (KB_ BK50.out)) : gb114 ≠ gp0)); have n11_ := Aside0.mk ((by rw [hg]; exact Nat.ne_of_lt (blk_lt (g := gb101) (o := .cells #[.int .i64 0, .int .i64 0, .int .i64 0, .slice none 0 0] 48 (0, 0)) (KB_ BK101.out)) : gb101 ≠ gb114)); have n12_ := Aside0.mk ((by rw [hg]; exact Nat.ne_of_gt (blk_lt (g := gb101) (o := .cells #[.int .i64 0, .int .i64 0, .int .i64 0, .slice none 0 0] 48 (0, 0)) (KB_ BK101.out)) : gb114 ≠ gb101)); clear HO104; clear HO107; clear HO113; clear BK50; clear BK101; clear HB; have HO104 := n0_; have HO107 := n1_; have HO113 := n2_; have BK50 := n3_; have BK101 := n4_; have HB := n5_; have BK114 := n6_; have GW114 := n7_; have GE114 := n8_; have NB50_114 := n9_; have NB114_50 := n10_; have NB101_114 := n11_; have NB114_101 := n12_; clear n0_ n1_ n2_ n3_ n4_ n5_ n6_ n7_ n8_ n9_ n10_ n11_ n12_; clear hb hbox hg; have hnb14 := NB114_50.out; have hnc14 := NB50_114.out; have hnb15 := NB114_101.out; have hnc15 := NB101_114.out; have hcz16_0 : w13.cell? ⟨gb114, 0, none⟩ = some (.int .i64 0) := (blk_cell BK114.out 0).trans rfl; have hcz16_1 : w13.cell? ⟨gb114, 1, none⟩ = some (.int .i64 0) := (blk_cell BK114.out 1).trans rfl; have hcz16_2 : w13.cell? ⟨gb114, 2, none⟩ = some (.int .i64 0) := (blk_cell BK114.out 2).trans rfl; have hcz16_3 : w13.cell? ⟨gb114, 3, none⟩ = some (.slice none 0 0) := (blk_cell BK114.out 3).trans rfl; have hfz16_0 := blk_frozen BK114.out 0; have hfz16_1 := blk_frozen BK114.out 1; have hfz16_2 := blk_frozen BK114.out 2; have hfz16_3 := blk_frozen BK114.out 3; obtain ⟨Ao17, co17, eo17⟩ := Kd.R_slice HO113.out; subst eo17))
 go_loopg [10] k (fun kq v10 w' => ∃ (x7_1 : List Int) (x8_1 : List Int) (x10_1 : Int) (x115003_1 : List Int) (u115003 : Value), v10 = .int .i64 x10_1 ∧ Aside0 (z95.l0 kq a1 a2 x7_1 x8_1 x10_1 l0_0 t108 t109 t110 x115003_1 = some (r1, r2, r3, r4)) ∧ Aside0 (kq ≤ k) ∧ Aside0 (Kd.R (Kd.int .i64) 2 w' w.heap.size (fun k_ => some k_ ≠ ((.slice Ao10 t105.length co10) : Value).ownBlock ∧ some k_ ≠ (u115003 : Value).ownBlock) (.slice Ao11 t102.length co11) x7_1) ∧ Aside0 (Kd.R (Kd.int .i64) 2 w' w.heap.size (fun k_ => some k_ ≠ ((.slice Ao11 t102.length co11) : Value).ownBlock ∧ some k_ ≠ (u115003 : Value).ownBlock) (.slice Ao10 t105.length co10) x8_1) ∧ Aside0 (Kd.R (Kd.int .i64) 2 w' w.heap.size (fun k_ => some k_ ≠ ((.slice Ao11 t102.length co11) : Value).ownBlock ∧ some k_ ≠ ((.slice Ao10 t105.length co10) : Value).ownBlock) u115003 x115003_1) ∧ Aside0 (w'.heap[gp0]? = some (.cells #[(.slice A0_0 l0_0.length c0_0)] 29 (0, 0))) ∧ Aside0 (w'.heap[gb101]? = some (.cells #[.int .i64 0, .int .i64 0, .int .i64 0, (.slice none 0 0)] 48 (0, 0))) ∧ Aside0 (w'.heap[gb114]? = some (.cells #[.int .i64 t108, .int .i64 t109, .int .i64 t110, u115003] 48 (0, 0))) ∧ Aside0 (Below w.heap.size w w'))
 case atStart => exact ⟨(t102), (t105), (0), (t111), (.slice Ao17 t111.length co17), E_, H', ⟨Nat.le_refl _⟩, ⟨by (with_reducible repeat (first | apply Kd.R_alloc | apply Kd.R_drewN | apply Kd.R_drew)); exact Kd.R_mono (Kd.R_far (p := ⟨gb114, 3, none⟩) (Kd.R_far (p := ⟨gb114, 2, none⟩) (Kd.R_far (p := ⟨gb114, 1, none⟩) (Kd.R_far (p := ⟨gb114, 0, none⟩) (Kd.R_types HO104.out BK114.out (by decide)) (fun _ hk => hk.2) (.int .i64 t108)) (fun _ hk => hk.2) (.int .i64 t109)) (fun _ hk => hk.2) (.int .i64 t110)) (fun _ hk => hk.2) (.slice Ao17 t111.length co17)) (fun _ hk => ⟨hk.1.1.2, hk.1.2⟩)⟩, ⟨by (with_reducible repeat (first | apply Kd.R_alloc | apply Kd.R_drewN | apply Kd.R_drew)); exact Kd.R_mono (Kd.R_far (p := ⟨gb114, 3, none⟩) (Kd.R_far (p := ⟨gb114, 2, none⟩) (Kd.R_far (p := ⟨gb114, 1, none⟩) (Kd.R_far (p := ⟨gb114, 0, none⟩) (Kd.R_types HO107.out BK114.out (by decide)) (fun _ hk => hk.2) (.int .i64 t108)) (fun _ hk => hk.2) (.int .i64 t109)) (fun _ hk => hk.2) (.int .i64 t110)) (fun _ hk => hk.2) (.slice Ao17 t111.length co17)) (fun _ hk => ⟨hk.1.1.2, hk.1.2⟩)⟩, ⟨by (with_reducible repeat (first | apply Kd.R_alloc | apply Kd.R_drewN | apply Kd.R_drew)); exact Kd.R_mono (Kd.R_far (p := ⟨gb114, 3, none⟩) (Kd.R_far (p := ⟨gb114, 2, none⟩) (Kd.R_far (p := ⟨gb114, 1, none⟩) (Kd.R_far (p := ⟨gb114, 0, none⟩) (Kd.R_types HO113.out BK114.out (by decide)) (fun _ hk => hk.2) (.int .i64 t108)) (fun _ hk => hk.2) (.int .i64 t109)) (fun _ hk => hk.2) (.int .i64 t110)) (fun _ hk => hk.2) (.slice Ao17 t111.length co17)) (fun _ hk => ⟨hk.1.1.2, hk.1.2⟩)⟩, ⟨by (with_reducible repeat (first | refine blk_drewN ?_ _ | refine blk_drew ?_ | refine blk_alloc ?_ _)); refine blk_far ?_ NB50_114.out _; (with_reducible repeat (first | refine blk_drewN ?_ _ | refine blk_drew ?_ | refine blk_alloc ?_ _)); refine blk_far ?_ NB50_114.out _; (with_reducible repeat (first | refine blk_drewN ?_ _ | refine blk_drew ?_ | refine blk_alloc ?_ _)); refine blk_far ?_ NB50_114.out _; (with_reducible repeat (first | refine blk_drewN ?_ _ | refine blk_drew ?_ | refine blk_alloc ?_ _)); refine blk_far ?_ NB50_114.out _; (with_reducible repeat (first | refine blk_drewN ?_ _ | refine blk_drew ?_ | refine blk_alloc ?_ _)); exact BK50.out⟩, ⟨by (with_reducible repeat (first | refine blk_drewN ?_ _ | refine blk_drew ?_ | refine blk_alloc ?_ _)); refine blk_far ?_ NB101_114.out _; (with_reducible repeat (first | refine blk_drewN ?_ _ | refine blk_drew ?_ | refine blk_alloc ?_ _)); refine blk_far ?_ NB101_114.out _; (with_reducible repeat (first | refine blk_drewN ?_ _ | refine blk_drew ?_ | refine blk_alloc ?_ _)); refine blk_far ?_ NB101_114.out _; (with_reducible repeat (first | refine blk_drewN ?_ _ | refine blk_drew ?_ | refine blk_alloc ?_ _)); refine blk_far ?_ NB101_114.out _; (with_reducible repeat (first | refine blk_drewN ?_ _ | refine blk_drew ?_ | refine blk_alloc ?_ _)); exact BK101.out⟩, ⟨by (with_reducible repeat (first | refine blk_drewN ?_ _ | refine blk_drew ?_ | refine blk_alloc ?_ _)); refine blk_put (cs := #[.int .i64 t108, .int .i64 t109, .int .i64 t110, .slice none 0 0]) ?_ 3 _ rfl; (with_reducible repeat (first | refine blk_drewN ?_ _ | refine blk_drew ?_ | refine blk_alloc ?_ _)); refine blk_put (cs := #[.int .i64 t108, .int .i64 t109, .int .i64 0, .slice none 0 0]) ?_ 2 _ rfl; (with_reducible repeat (first | refine blk_drewN ?_ _ | refine blk_drew ?_ | refine blk_alloc ?_ _)); refine blk_put (cs := #[.int .i64 t108, .int .i64 0, .int .i64 0, .slice none 0 0]) ?_ 1 _ rfl; (with_reducible repeat (first | refine blk_drewN ?_ _ | refine blk_drew ?_ | refine blk_alloc ?_ _)); refine blk_put (cs := #[.int .i64 0, .int .i64 0, .int .i64 0, .slice none 0 0]) ?_ 0 _ rfl; (with_reducible repeat (first | refine blk_drewN ?_ _ | refine blk_drew ?_ | refine blk_alloc ?_ _)); exact BK114.out⟩, ⟨B2_ HB.out GE101.out GE114.out⟩⟩
 case round =>
  clear H'
  (try clear c1);(try clear p2);(try clear p6);(try clear c8);(try clear c9);(try clear c13);(try clear c14);(try clear c15);(try clear hcz16_0);(try clear hcz16_1);(try clear hcz16_2);(try clear hcz16_3);(try clear hfz16_0);(try clear hfz16_1);(try clear hfz16_2);(try clear hfz16_3)
  obtain ⟨x7_1, x8_1, x10_1, x115003_1, u115003, rfl, HA, HK1, HO_7, HO_8, HO_115003, BK50, BK101, BK114, HB⟩ := hrel
  have hl7_1 := (Kd.R_reads' HO_7.out).1
  rw [hl7_1] at HO_7
  (try simp only [hl7_1])
  (try simp only [hl7_1] at BK50)
  (try simp only [hl7_1] at BK101)
  (try simp only [hl7_1] at BK114)
  (try simp only [hl7_1] at HO_8)
  (try simp only [hl7_1] at HO_115003)
  have hl8_1 := (Kd.R_reads' HO_8.out).1
  rw [hl8_1] at HO_8
  (try simp only [hl8_1])
  (try simp only [hl8_1] at BK50)
  (try simp only [hl8_1] at BK101)
  (try simp only [hl8_1] at BK114)
  (try simp only [hl8_1] at HO_7)
  (try simp only [hl8_1] at HO_115003)
  cases gk with
  | zero => exact absurd HA.out (by simp [z95.l0])
  | succ k1 =>
   have H := HA.out
   clear HA
   simp only [z95.l0] at H
   have HC18 := Aside0.mk H
   clear H
   go_upto_region 5 with (fail)
   go_cut [33] (fun v33 wc => ∃ (kq : Nat) (x33_17 : Bool), v33 = .bool x33_17 ∧ Aside0 (z95.j1 kq a1 a2 x7_1 x8_1 x10_1 x33_17 l0_0 t108 t109 t110 x115003_1 = some (r1, r2, r3, r4)) ∧ Aside0 (kq ≤ k1) ∧ Aside0 (Kd.R (Kd.int .i64) 2 wc w.heap.size (fun k_ => some k_ ≠ ((.slice Ao10 x8_1.length co10) : Value).ownBlock ∧ some k_ ≠ (u115003 : Value).ownBlock) (.slice Ao11 x7_1.length co11) x7_1) ∧ Aside0 (Kd.R (Kd.int .i64) 2 wc w.heap.size (fun k_ => some k_ ≠ ((.slice Ao11 x7_1.length co11) : Value).ownBlock ∧ some k_ ≠ (u115003 : Value).ownBlock) (.slice Ao10 x8_1.length co10) x8_1) ∧ Aside0 (Kd.R (Kd.int .i64) 2 wc w.heap.size (fun k_ => some k_ ≠ ((.slice Ao11 x7_1.length co11) : Value).ownBlock ∧ some k_ ≠ ((.slice Ao10 x8_1.length co10) : Value).ownBlock) u115003 x115003_1) ∧ Aside0 (wc.heap[gp0]? = some (.cells #[(.slice A0_0 l0_0.length c0_0)] 29 (0, 0))) ∧ Aside0 (wc.heap[gb101]? = some (.cells #[.int .i64 0, .int .i64 0, .int .i64 0, (.slice none 0 0)] 48 (0, 0))) ∧ Aside0 (wc.heap[gb114]? = some (.cells #[.int .i64 t108, .int .i64 t109, .int .i64 t110, u115003] 48 (0, 0))) ∧ Aside0 (Below w.heap.size w wc))
   case first =>
    have H := HC18.out
    clear HC18
    by_cases c19 : x10_1 < (x7_1.length : Int)
    ·rw [if_pos c19] at H
     have c19b0 : decide (x10_1 < (x7_1.length : Int)) = true := decide_eq_true c19
     (try rw [hl7_1] at c19b0)
     (try rw [hl8_1] at c19b0)
     clear c19
     (first | rw [c19b0] | (simp only [i64_w, i32_w]; rw [c19b0]) | skip)
     have H' := Aside0.mk H
     clear H
     go_wp2
     go_meet
     case rel => exact ⟨_, (decide (a1 > 0)), E_, H', ⟨by have := HK1.out; first | omega | exact Nat.le_refl _⟩, ⟨by (try simp only [hl7_1]); (try simp only [hl8_1]); (with_reducible repeat (first | apply Kd.R_alloc | apply Kd.R_drewN | apply Kd.R_drew)); exact HO_7.out⟩, ⟨by (try simp only [hl7_1]); (try simp only [hl8_1]); (with_reducible repeat (first | apply Kd.R_alloc | apply Kd.R_drewN | apply Kd.R_drew)); exact HO_8.out⟩, ⟨by (try simp only [hl7_1]); (try simp only [hl8_1]); (with_reducible repeat (first | apply Kd.R_alloc | apply Kd.R_drewN | apply Kd.R_drew)); exact HO_115003.out⟩, ⟨by (try simp only [hl7_1]); (try simp only [hl8_1]); (with_reducible repeat (first | refine blk_drewN ?_ _ | refine blk_drew ?_ | refine blk_alloc ?_ _)); exact BK50.out⟩, ⟨by (try simp only [hl7_1]); (try simp only [hl8_1]); (with_reducible repeat (first | refine blk_drewN ?_ _ | refine blk_drew ?_ | refine blk_alloc ?_ _)); exact BK101.out⟩, ⟨by (try simp only [hl7_1]); (try simp only [hl8_1]); (with_reducible repeat (first | refine blk_drewN ?_ _ | refine blk_drew ?_ | refine blk_alloc ?_ _)); exact BK114.out⟩, ⟨B2_ HB.out GE101.out GE114.out⟩⟩
    ·rw [if_neg c19] at H
     have c19b0 : decide (x10_1 < (x7_1.length : Int)) = false := decide_eq_false c19
     (try rw [hl7_1] at c19b0)
     (try rw [hl8_1] at c19b0)
     clear c19
     (first | rw [c19b0] | (simp only [i64_w, i32_w]; rw [c19b0]) | skip)
     have H' := Aside0.mk H
     clear H
     go_wp2
     go_meet
     case rel => exact ⟨_, (false), E_, H', ⟨by have := HK1.out; first | omega | exact Nat.le_refl _⟩, ⟨by (try simp only [hl7_1]); (try simp only [hl8_1]); (with_reducible repeat (first | apply Kd.R_alloc | apply Kd.R_drewN | apply Kd.R_drew)); exact HO_7.out⟩, ⟨by (try simp only [hl7_1]); (try simp only [hl8_1]); (with_reducible repeat (first | apply Kd.R_alloc | apply Kd.R_drewN | apply Kd.R_drew)); exact HO_8.out⟩, ⟨by (try simp only [hl7_1]); (try simp only [hl8_1]); (with_reducible repeat (first | apply Kd.R_alloc | apply Kd.R_drewN | apply Kd.R_drew)); exact HO_115003.out⟩, ⟨by (try simp only [hl7_1]); (try simp only [hl8_1]); (with_reducible repeat (first | refine blk_drewN ?_ _ | refine blk_drew ?_ | refine blk_alloc ?_ _)); exact BK50.out⟩, ⟨by (try simp only [hl7_1]); (try simp only [hl8_1]); (with_reducible repeat (first | refine blk_drewN ?_ _ | refine blk_drew ?_ | refine blk_alloc ?_ _)); exact BK101.out⟩, ⟨by (try simp only [hl7_1]); (try simp only [hl8_1]); (with_reducible repeat (first | refine blk_drewN ?_ _ | refine blk_drew ?_ | refine blk_alloc ?_ _)); exact BK114.out⟩, ⟨B2_ HB.out GE101.out GE114.out⟩⟩
   case rest =>
    clear HC18
    (try clear c1);(try clear p2);(try clear p6);(try clear c8);(try clear c9);(try clear c13);(try clear c14);(try clear c15);(try clear c19);(try clear c19b0);(try clear hcz16_0);(try clear hcz16_1);(try clear hcz16_2);(try clear hcz16_3);(try clear hfz16_0);(try clear hfz16_1);(try clear hfz16_2);(try clear hfz16_3);(try clear p2);(try clear p6)
    obtain ⟨kq, x33_17, rfl, HA, HJ17, HO_7, HO_8, HO_115003, BK50, BK101, BK114, HB⟩ := hcut
    cases kq with
    | zero => exact absurd HA.out (by simp [z95.j1])
    | succ kj17 =>
     have H := HA.out
     clear HA
     simp only [z95.j1] at H
     by_cases c20 : x33_17 = true
     ·subst c20
      have H1 : (if 0 ≤ x10_1 then (if x10_1 < (x7_1.length : Int) then ((z135.f kj17 l0_0 (rd x7_1 x10_1)).bind fun t116 => (z95.l1 kj17 a1 a2 x7_1 x8_1 x10_1 t116 0 l0_0 t108 t109 t110 x115003_1)) else (none)) else (none)) = some (r1, r2, r3, r4) := by rw [if_pos rfl] at H; exact H
      clear H
      have H := H1
      clear H1
      have c21 := O1_ H
      replace H := O2_ H
      have c21b0 := decide_eq_true c21
      (try rw [hl7_1] at c21b0)
      (try rw [hl8_1] at c21b0)
      clear c21
      have c22 := O1_ H
      replace H := O2_ H
      have c22b0 := decide_eq_true c22
      (try rw [hl7_1] at c22b0)
      (try rw [hl8_1] at c22b0)
      clear c22
      replace H := Option.bind_eq_some_iff.mp H
      obtain ⟨t116, A230, H⟩ := H
      replace H : (z95.l1 kj17 a1 a2 x7_1 x8_1 x10_1 t116 0 l0_0 t108 t109 t110 x115003_1) = some (r1, r2, r3, r4) := H
      have A23 := Aside0.mk A230
      clear A230
      have H' := Aside0.mk H
      clear H
      have p115 : 0 ≤ (x10_1 : Int) := D_
      have q115 : x10_1 < (x7_1.length : Int) := D_
      obtain ⟨ad115, e115, hx115_0⟩ := Kd.at_int (Kd.R_reads' HO_7.out).2.2 x10_1 p115 q115
      cases e115
      replace p115 := eq_true p115
      replace q115 := eq_true q115
      go_wp2_with (first | ((with_reducible refine gate_callee (f := 135) rfl ?_); refine goesL_ (some 41) rfl rfl Try.func135 (by kernel_rfl) rfl #[.pointer (some ⟨gp0, 0, none⟩), .int .i64 (rd x7_1 x10_1)] rfl (by (try simp only [List.map_toArray, List.map_cons, List.map_nil]); first | done | rfl | (simp only [List.length_drop, List.length_take]; rfl)) ?_; (with_reducible refine (z135.calls kj17 gp0 A0_0 c0_0 l0_0 (rd x7_1 x10_1) t116 _ ?side1 ?side2 ?side3 A23.out).mono ?_); (case side1 => (with_reducible repeat (first | refine blk_drewN ?_ _ | refine blk_drew ?_ | refine blk_alloc ?_ _)); exact BK50.out); (case side2 => exact KC_ (Kd.C_below HR0_0.out HB.out)); (case side3 => exact HC0_0.out); rintro e w24 ⟨v117, rfl, ho0, hb⟩; refine ⟨_, rfl, ?_⟩; have n0_ := Aside0.mk (Kd.R_elder' (KR_ HO_7.out) (Kd.R_base ho0) hb); have n1_ := Aside0.mk (Kd.R_elder' (KR_ HO_8.out) (Kd.R_base ho0) hb); have n2_ := Aside0.mk (Kd.R_elder' (KR_ HO_115003.out) (Kd.R_base ho0) hb); have n3_ := Aside0.mk (Kd.R_lower (Kd.R_new' (Kd.R_new' (Kd.R_new' ho0 (Kd.R_lt (KR_ HO_7.out))) (Kd.R_lt (KR_ HO_8.out))) (Kd.R_lt (KR_ HO_115003.out))) (below_size (B2_ HB.out GE101.out GE114.out))); have n4_ := Aside0.mk (blk_below (g := gp0) (o := .cells #[.slice A0_0 l0_0.length c0_0] 29 (0, 0)) (KB_ BK50.out) hb); have n5_ := Aside0.mk (blk_below (g := gb101) (o := .cells #[.int .i64 0, .int .i64 0, .int .i64 0, .slice none 0 0] 48 (0, 0)) (KB_ BK101.out) hb); have n6_ := Aside0.mk (blk_below (g := gb114) (o := .cells #[.int .i64 t108, .int .i64 t109, .int .i64 t110, u115003] 48 (0, 0)) (KB_ BK114.out) hb); have n7_ := Aside0.mk (below_step (B2_ HB.out GE101.out GE114.out) hb); clear HO_7; clear HO_8; clear HO_115003; clear BK50; clear BK101; clear BK114; clear HB; have HO_7 := n0_; have HO_8 := n1_; have HO_115003 := n2_; have HO118 := n3_; have BK50 := n4_; have BK101 := n5_; have BK114 := n6_; have HB := n7_; clear n0_ n1_ n2_ n3_ n4_ n5_ n6_ n7_; (try clear hb); (try clear hb2); (try clear hk); (try clear hi); (try clear ho0)))
      go_loopg [12] kj17 (fun kq v12 w' => ∃ (x7_3 : List Int) (x8_3 : List Int) (x11_3 : List Int) (x12_3 : Int) (x115003_3 : List Int) (u115003 : Value), v12 = .int .i64 x12_3 ∧ Aside0 (z95.l1 kq a1 a2 x7_3 x8_3 x10_1 x11_3 x12_3 l0_0 t108 t109 t110 x115003_3 = some (r1, r2, r3, r4)) ∧ Aside0 (kq ≤ kj17) ∧ Aside0 (Kd.R (Kd.int .i64) 2 w' w.heap.size (fun k_ => some k_ ≠ ((.slice Ao10 x8_1.length co10) : Value).ownBlock ∧ some k_ ≠ (v117 : Value).ownBlock ∧ some k_ ≠ (u115003 : Value).ownBlock) (.slice (some ad115) x7_1.length co11) x7_3) ∧ Aside0 (Kd.R (Kd.int .i64) 2 w' w.heap.size (fun k_ => some k_ ≠ ((.slice (some ad115) x7_1.length co11) : Value).ownBlock ∧ some k_ ≠ (v117 : Value).ownBlock ∧ some k_ ≠ (u115003 : Value).ownBlock) (.slice Ao10 x8_1.length co10) x8_3) ∧ Aside0 (Kd.R (Kd.int .i64) 2 w' w.heap.size (fun k_ => some k_ ≠ ((.slice (some ad115) x7_1.length co11) : Value).ownBlock ∧ some k_ ≠ ((.slice Ao10 x8_1.length co10) : Value).ownBlock ∧ some k_ ≠ (u115003 : Value).ownBlock) v117 x11_3) ∧ Aside0 (Kd.R (Kd.int .i64) 2 w' w.heap.size (fun k_ => some k_ ≠ ((.slice (some ad115) x7_1.length co11) : Value).ownBlock ∧ some k_ ≠ ((.slice Ao10 x8_1.length co10) : Value).ownBlock ∧ some k_ ≠ (v117 : Value).ownBlock) u115003 x115003_3) ∧ Aside0 (w'.heap[gp0]? = some (.cells #[(.slice A0_0 l0_0.length c0_0)] 29 (0, 0))) ∧ Aside0 (w'.heap[gb101]? = some (.cells #[.int .i64 0, .int .i64 0, .int .i64 0, (.slice none 0 0)] 48 (0, 0))) ∧ Aside0 (w'.heap[gb114]? = some (.cells #[.int .i64 t108, .int .i64 t109, .int .i64 t110, u115003] 48 (0, 0))) ∧ Aside0 (Below w.heap.size w w'))
      case atStart => exact ⟨(x7_1), (x8_1), (t116), (0), (x115003_1), (u115003), E_, H', ⟨Nat.le_refl _⟩, ⟨by (try simp only [hl7_1]); (try simp only [hl8_1]); (with_reducible repeat (first | apply Kd.R_alloc | apply Kd.R_drewN | apply Kd.R_drew)); exact Kd.R_mono HO_7.out (fun _ hk => ⟨hk.1.1, ⟨hk.2, hk.1.2⟩⟩)⟩, ⟨by (try simp only [hl7_1]); (try simp only [hl8_1]); (with_reducible repeat (first | apply Kd.R_alloc | apply Kd.R_drewN | apply Kd.R_drew)); exact Kd.R_mono HO_8.out (fun _ hk => ⟨hk.1.1, ⟨hk.2, hk.1.2⟩⟩)⟩, ⟨by (try simp only [hl7_1]); (try simp only [hl8_1]); (with_reducible repeat (first | apply Kd.R_alloc | apply Kd.R_drewN | apply Kd.R_drew)); exact Kd.R_mono HO118.out (fun _ hk => ⟨hk.1.1.2, ⟨hk.1.2, hk.2⟩⟩)⟩, ⟨by (try simp only [hl7_1]); (try simp only [hl8_1]); (with_reducible repeat (first | apply Kd.R_alloc | apply Kd.R_drewN | apply Kd.R_drew)); exact Kd.R_mono HO_115003.out (fun _ hk => ⟨hk.1.1, ⟨hk.1.2, hk.2⟩⟩)⟩, ⟨by (try simp only [hl7_1]); (try simp only [hl8_1]); (with_reducible repeat (first | refine blk_drewN ?_ _ | refine blk_drew ?_ | refine blk_alloc ?_ _)); exact BK50.out⟩, ⟨by (try simp only [hl7_1]); (try simp only [hl8_1]); (with_reducible repeat (first | refine blk_drewN ?_ _ | refine blk_drew ?_ | refine blk_alloc ?_ _)); exact BK101.out⟩, ⟨by (try simp only [hl7_1]); (try simp only [hl8_1]); (with_reducible repeat (first | refine blk_drewN ?_ _ | refine blk_drew ?_ | refine blk_alloc ?_ _)); exact BK114.out⟩, ⟨B2_ HB.out GE101.out GE114.out⟩⟩
      case round =>
       clear H'
       (try clear c1);(try clear p1);(try clear q1);(try clear hx1);(try clear c2);(try clear p2);(try clear p6);(try clear c8);(try clear c9);(try clear p11);(try clear q11);(try clear hx11);(try clear c13);(try clear c14);(try clear c15);(try clear c19);(try clear c19b0);(try clear c20);(try clear c21);(try clear c21b0);(try clear c22);(try clear c22b0);(try clear hcz16_0);(try clear hcz16_1);(try clear hcz16_2);(try clear hcz16_3);(try clear hfz16_0);(try clear hfz16_1);(try clear hfz16_2);(try clear hfz16_3);(try clear hx115_0);(try clear p115);(try clear p2);(try clear p6);(try clear q115)
       obtain ⟨x7_3, x8_3, x11_3, x12_3, x115003_3, u115003, rfl, HA, HK3, HO_7, HO_8, HO_11, HO_115003, BK50, BK101, BK114, HB⟩ := hrel
       have hl7_3 := (Kd.R_reads' HO_7.out).1
       rw [hl7_3] at HO_7
       (try simp only [hl7_3])
       (try simp only [hl7_3] at BK50)
       (try simp only [hl7_3] at BK101)
       (try simp only [hl7_3] at BK114)
       (try simp only [hl7_3] at HO_8)
       (try simp only [hl7_3] at HO_11)
       (try simp only [hl7_3] at HO_115003)
       have hl8_3 := (Kd.R_reads' HO_8.out).1
       rw [hl8_3] at HO_8
       (try simp only [hl8_3])
       (try simp only [hl8_3] at BK50)
       (try simp only [hl8_3] at BK101)
       (try simp only [hl8_3] at BK114)
       (try simp only [hl8_3] at HO_7)
       (try simp only [hl8_3] at HO_11)
       (try simp only [hl8_3] at HO_115003)
       cases gk with
       | zero => exact absurd HA.out (by simp [z95.l1])
       | succ k3 =>
        have H := HA.out
        clear HA
        simp only [z95.l1] at H
        by_cases c25 : x12_3 < (x11_3.length : Int)
        ·rw [if_pos c25] at H
         have c25b0 : decide (x12_3 < (x11_3.length : Int)) = true := decide_eq_true c25
         (try rw [hl7_1] at c25b0)
         (try rw [hl8_1] at c25b0)
         (try rw [hl7_3] at c25b0)
         (try rw [hl8_3] at c25b0)
         clear c25
         have c26 := O1_ H
         replace H := O2_ H
         have c26b0 := decide_eq_true c26
         (try rw [hl7_1] at c26b0)
         (try rw [hl8_1] at c26b0)
         (try rw [hl7_3] at c26b0)
         (try rw [hl8_3] at c26b0)
         clear c26
         have c27 := O1_ H
         replace H := O2_ H
         have c27b0 := decide_eq_true c27
         have c27b1 : decide (0 < x8_3.length) = true := decide_eq_true (by omega)
         (try rw [hl7_1] at c27b0)
         (try rw [hl7_1] at c27b1)
         (try rw [hl8_1] at c27b0)
         (try rw [hl8_1] at c27b1)
         (try rw [hl7_3] at c27b0)
         (try rw [hl7_3] at c27b1)
         (try rw [hl8_3] at c27b0)
         (try rw [hl8_3] at c27b1)
         clear c27
         replace H := Option.bind_eq_some_iff.mp H
         obtain ⟨t121, A280, H⟩ := H
         replace H : (if 0 ≤ (wrap64 ((wrap64 ((wrap64 ((rd x11_3 x12_3) - (rd x8_3 0))) * t110)) + x10_1)) then (if (wrap64 ((wrap64 ((wrap64 ((rd x11_3 x12_3) - (rd x8_3 0))) * t110)) + x10_1)) < (x115003_3.length : Int) then (z95.l1 k3 a1 a2 x7_3 x8_3 x10_1 x11_3 (wrap64 (x12_3 + 1)) l0_0 t108 t109 t110 (x115003_3.set ((wrap64 ((wrap64 ((wrap64 ((rd x11_3 x12_3) - (rd x8_3 0))) * t110)) + x10_1)) : Int).toNat t121)) else (none)) else (none)) = some (r1, r2, r3, r4) := H
         have A28 := Aside0.mk A280
         clear A280
         obtain ⟨ji29, hji29⟩ : ∃ j_ : Int, (wrap64 ((wrap64 ((wrap64 ((rd x11_3 x12_3) - (rd x8_3 0))) * t110)) + x10_1)) = j_ := ⟨_, rfl⟩
         replace H : (if 0 ≤ (ji29) then (if (ji29) < (x115003_3.length : Int) then (z95.l1 k3 a1 a2 x7_3 x8_3 x10_1 x11_3 (wrap64 (x12_3 + 1)) l0_0 t108 t109 t110 (x115003_3.set ((ji29) : Int).toNat t121)) else (none)) else (none)) = some (r1, r2, r3, r4) := by first | (rw [hji29] at H; exact H) | (simp only [hji29] at H ⊢; exact H)
         (try rw [hji29] at A28)
         have hji29w : (IntKind.i64.wrap ((wrap64 ((wrap64 ((rd x11_3 x12_3) - (rd x8_3 0))) * t110)) + x10_1)) = ji29 := (i64_w _).trans hji29
         have c30 := O1_ H
         replace H := O2_ H
         have c30b0 := decide_eq_true c30
         (try rw [hl7_1] at c30b0)
         (try rw [hl8_1] at c30b0)
         (try rw [hl7_3] at c30b0)
         (try rw [hl8_3] at c30b0)
         clear c30
         have c31 := O1_ H
         replace H := O2_ H
         have c31b0 := decide_eq_true c31
         (try rw [hl7_1] at c31b0)
         (try rw [hl8_1] at c31b0)
         (try rw [hl7_3] at c31b0)
         (try rw [hl8_3] at c31b0)
         clear c31
         obtain ⟨y122, hy122⟩ : ∃ y_ : List Int, y_ = (x115003_3.set ((ji29) : Int).toNat t121) := ⟨_, rfl⟩
         replace H : (z95.l1 k3 a1 a2 x7_3 x8_3 x10_1 x11_3 (wrap64 (x12_3 + 1)) l0_0 t108 t109 t110 y122) = some (r1, r2, r3, r4) := Y_ hy122 H
         have Ny122 := Aside0.mk hy122
         clear hy122
         have H' := Aside0.mk H
         clear H
         obtain ⟨Ao33, co33, eo33⟩ := Kd.R_slice HO_11.out
         subst eo33
         try go_wp2
         replace HO_7 := Aside0.mk (Kd.R_drew HO_7.out)
         replace HO_8 := Aside0.mk (Kd.R_drew HO_8.out)
         replace HO_11 := Aside0.mk (Kd.R_drew HO_11.out)
         replace HO_115003 := Aside0.mk (Kd.R_drew HO_115003.out)
         replace BK50 := Aside0.mk (blk_drew BK50.out)
         replace BK101 := Aside0.mk (blk_drew BK101.out)
         replace BK114 := Aside0.mk (blk_drew BK114.out)
         replace HB := Aside0.mk (below_drew1 HB.out)
         have p119 : 0 ≤ (x12_3 : Int) := D_
         have q119 : x12_3 < (x11_3.length : Int) := D_
         obtain ⟨ad119, e119, hx119_0⟩ := Kd.at_int (Kd.R_reads' HO_11.out).2.2 x12_3 p119 q119
         cases e119
         replace p119 := eq_true p119
         replace q119 := eq_true q119
         have p120 : 0 ≤ (0 : Int) := (by omega)
         have q120 : 0 < (x8_3.length : Int) := D_
         obtain ⟨ad120, e120, hx120_0⟩ := Kd.at_int (Kd.R_reads' HO_8.out).2.2 0 p120 q120
         cases e120
         have qi120 : (0 < x8_3.length) = True := eq_true (by omega)
         (try rw [show ((0 : Int)).toNat = 0 from rfl] at hx120_0)
         (try rw [Addr.add_zero'] at hx120_0)
         replace p120 := eq_true p120
         replace q120 := eq_true q120
         refine start_ (n := 20) (S := fun w' => w'.cell? ⟨gb114, 0, none⟩ = some (.int .i64 t108) ∧ w'.cell? ⟨gb114, 1, none⟩ = some (.int .i64 t109) ∧ w'.cell? ⟨gb114, 2, none⟩ = some (.int .i64 t110) ∧ w'.cell? ⟨gb114, 3, none⟩ = some (u115003) ∧ w'.cell? (ad119.add (x12_3).toNat) = some (.int .i64 (rd x11_3 x12_3)) ∧ w'.cell? ad120 = some (.int .i64 (rd x8_3 0))) (ds := [19]) (tb_ 20 0) (by kernel_rfl) rfl rfl ⟨(blk_cell BK114.out 0).trans rfl, (blk_cell BK114.out 1).trans rfl, (blk_cell BK114.out 2).trans rfl, (blk_cell BK114.out 3).trans rfl, hx119_0, hx120_0⟩ (fun hHeld => ?_); refine with_tabW z95.tab11 z95.bits11 (fun HT_ HW_ => ?_)
         generalize wr.drew = w34 at HO_7 HO_8 HO_11 HO_115003 BK50 BK101 BK114 HB hx119_0 hx120_0 hHeld ⊢
         refine PV_ (i := 0) (N := some 48) (tb_ 20 1) HT_ rfl rfl (h := ?_)
         refine PV_ (i := 2) (N := some 50) (tb_ 20 5) HT_ rfl rfl (h := ?_)
         refine PV_ (i := 3) (N := some 51) (tb_ 20 13) HT_ rfl rfl (h := ?_)
         refine PV_ (i := 4) (N := some 52) (tb_ 20 29) HT_ rfl rfl (h := ?_)
         refine PV_ (i := 6) (N := some 54) (tb_ 20 93) HT_ rfl rfl (h := ?_)
         refine PV_ (i := 7) (N := some 55) (tb_ 20 221) HT_ rfl rfl (h := ?_)
         refine PV_ (i := 10) (N := some 58) (tb_ 20 1245) HT_ rfl rfl (h := ?_)
         refine PV_ (i := 13) (N := some 61) (tb_ 20 9437) HT_ rfl rfl (h := ?_)
         refine PV_ (i := 15) (N := some 63) (tb_ 20 42205) HT_ rfl rfl (h := ?_)
         refine PV_ (i := 16) (N := some 64) (tb_ 20 107741) HT_ rfl rfl (h := ?_)
         refine TV_ (i := 1) (N := some 49) (tb_ 20 107743) HT_ HW_ rfl rfl hHeld (by rintro w' ⟨s0, s1, s2, s3, s4, s5⟩; go_simp; with_reducible rfl) (h := ?_)
         refine TV_ (i := 5) (N := some 53) (tb_ 20 107775) HT_ HW_ rfl rfl hHeld (by rintro w' ⟨s0, s1, s2, s3, s4, s5⟩; go_simp; with_reducible rfl) (h := ?_)
         refine TV_ (i := 8) (N := some 56) (tb_ 20 108031) HT_ HW_ rfl rfl hHeld (by rintro w' ⟨s0, s1, s2, s3, s4, s5⟩; go_simp; with_reducible rfl) (h := ?_)
         refine PV_ (i := 9) (N := some 57) (tb_ 20 108543) HT_ rfl rfl (h := ?_)
         refine TV_ (i := 11) (N := some 59) (tb_ 20 110591) HT_ HW_ rfl rfl hHeld (by rintro w' ⟨s0, s1, s2, s3, s4, s5⟩; go_simp; with_reducible rfl) (h := ?_)
         refine PV_ (i := 12) (N := some 60) (tb_ 20 114687) HT_ rfl rfl (h := ?_)
         refine PV_ (i := 14) (N := some 62) (tb_ 20 131071) HT_ rfl rfl (h := ?_)
         refine one_ (i := 17) (N := some 65) (tb_ 20 262143) rfl rfl (one_of HT_.out (by kernel_rfl)) (by decide) (fun K hK => ?_)
         refine GO_ Try.func136 #[.int .i64 x12_3, .int .i64 a2] (h := ?_)
         with_reducible refine (z136.calls x12_3 a2 t121 _ A28.out).mono ?_
         rintro e w' ⟨rfl, ⟨nd, rfl⟩⟩
         refine ⟨_, rfl, ?_⟩
         have p32 : 0 ≤ ((ji29) : Int) := D_
         have q32 : ((ji29) : Int) < ((x115003_3.length : Int) : Int) := D_
         obtain ⟨go32, co32, eo32, gb32, gl32, cl32, HG32⟩ := Kd.R_form HO_115003.out (by omega)
         (first | cases eo32 | (injection eo32 with ea_ en_ ec_; (first | subst ea_ | (injection ea_ with ea_; subst ea_)); subst ec_; clear en_))
         have GB32 := Aside0.mk gb32
         have GG32 := Aside0.mk HG32
         clear gb32 gl32 HG32
         obtain ⟨hx32_0, hf32_0⟩ := Kd.R_celln 0 HO_115003.out ((ji29) : Int) p32 q32
         replace p32 := eq_true p32
         replace q32 := eq_true q32
         have HP35 := Kd.R_putn HO_115003.out ((ji29) : Int) t121
         rw [← Ny122.out] at HP35
         have HQ35 := Aside0.mk HP35
         clear HP35
         refine hK.out _ _ ⟨(blk_cell BK114.out 0).trans rfl, (blk_cell BK114.out 1).trans rfl, (blk_cell BK114.out 2).trans rfl, (blk_cell BK114.out 3).trans rfl, hHeld.2.2.2.2.1, hHeld.2.2.2.2.2⟩ (fun hHeld => ?_)
         clear hK K
         refine NM_ (N := (some 65)) (h := ?_)
         refine PV_ (i := 18) (N := some 66) (tb_ 20 524287) HT_ rfl rfl (h := ?_)
         refine last_ (i := 19) (N := none) (tb_ 20 1048575) rfl rfl (one_of HT_.out (by kernel_rfl)) (by decide) (fun K hK => ?_)
         refine skip_ (w1 := ?_) (by rfl) rfl ?_ ?_
         rotate_left
         ·go_simp
          rfl
         refine hK.out _ _ ?_
         clear hK K
         refine done_ (done_of HT_.out (by kernel_rfl)) ?_
         try go_wp2
         (try simp only [← hl7_3, ← hl8_3])
         go_roundg k3
         case measure => have := HK1.out; have := HJ17.out; have := HK3.out; omega
         case rel => exact ⟨(x7_3), (x8_3), (x11_3), (wrap64 (x12_3 + 1)), (y122), (.slice (some ⟨go32, 0, none⟩) x115003_3.length co32), E_, H', ⟨by have := HK1.out; have := HJ17.out; have := HK3.out; omega⟩, ⟨by (try simp only [hl7_1]); (try simp only [hl8_1]); (try simp only [hl7_3]); (try simp only [hl8_3]); (with_reducible repeat (first | apply Kd.R_alloc | apply Kd.R_drewN | apply Kd.R_drew)); exact Kd.R_mono (Kd.R_far (p := ⟨go32, ((ji29) : Int).toNat, none⟩) (Kd.R_mono HO_7.out (fun k_ hk => (⟨hk, fun e_ => hk.2.2 (by rw [e_]; rfl)⟩ : _ ∧ k_ ≠ go32))) (fun _ hk => hk.2) (.int .i64 t121)) (fun _ hk => ⟨hk.1.1, ⟨hk.1.2.1, hk.1.2.2⟩⟩)⟩, ⟨by (try simp only [hl7_1]); (try simp only [hl8_1]); (try simp only [hl7_3]); (try simp only [hl8_3]); (with_reducible repeat (first | apply Kd.R_alloc | apply Kd.R_drewN | apply Kd.R_drew)); exact Kd.R_mono (Kd.R_far (p := ⟨go32, ((ji29) : Int).toNat, none⟩) (Kd.R_mono HO_8.out (fun k_ hk => (⟨hk, fun e_ => hk.2.2 (by rw [e_]; rfl)⟩ : _ ∧ k_ ≠ go32))) (fun _ hk => hk.2) (.int .i64 t121)) (fun _ hk => ⟨hk.1.1, ⟨hk.1.2.1, hk.1.2.2⟩⟩)⟩, ⟨by (try simp only [hl7_1]); (try simp only [hl8_1]); (try simp only [hl7_3]); (try simp only [hl8_3]); (with_reducible repeat (first | apply Kd.R_alloc | apply Kd.R_drewN | apply Kd.R_drew)); exact Kd.R_mono (Kd.R_far (p := ⟨go32, ((ji29) : Int).toNat, none⟩) (Kd.R_mono HO_11.out (fun k_ hk => (⟨hk, fun e_ => hk.2.2 (by rw [e_]; rfl)⟩ : _ ∧ k_ ≠ go32))) (fun _ hk => hk.2) (.int .i64 t121)) (fun _ hk => ⟨hk.1.1, ⟨hk.1.2.1, hk.1.2.2⟩⟩)⟩, ⟨by (try simp only [hl7_1]); (try simp only [hl8_1]); (try simp only [hl7_3]); (try simp only [hl8_3]); (with_reducible repeat (first | apply Kd.R_alloc | apply Kd.R_drewN | apply Kd.R_drew)); exact HQ35.out⟩, ⟨by (try simp only [hl7_1]); (try simp only [hl8_1]); (try simp only [hl7_3]); (try simp only [hl8_3]); (with_reducible repeat (first | refine blk_drewN ?_ _ | refine blk_drew ?_ | refine blk_alloc ?_ _)); refine blk_far ?_ (by have h_ := Kd.R_ne HO_115003.out BK50.out (by decide); intro e_; exact h_ (by rw [e_]; rfl)) _; (with_reducible repeat (first | refine blk_drewN ?_ _ | refine blk_drew ?_ | refine blk_alloc ?_ _)); exact BK50.out⟩, ⟨by (try simp only [hl7_1]); (try simp only [hl8_1]); (try simp only [hl7_3]); (try simp only [hl8_3]); (with_reducible repeat (first | refine blk_drewN ?_ _ | refine blk_drew ?_ | refine blk_alloc ?_ _)); refine blk_far ?_ (by have h_ := Kd.R_ne HO_115003.out BK101.out (by decide); intro e_; exact h_ (by rw [e_]; rfl)) _; (with_reducible repeat (first | refine blk_drewN ?_ _ | refine blk_drew ?_ | refine blk_alloc ?_ _)); exact BK101.out⟩, ⟨by (try simp only [hl7_1]); (try simp only [hl8_1]); (try simp only [hl7_3]); (try simp only [hl8_3]); (with_reducible repeat (first | refine blk_drewN ?_ _ | refine blk_drew ?_ | refine blk_alloc ?_ _)); refine blk_far ?_ (by have h_ := Kd.R_ne HO_115003.out BK114.out (by decide); intro e_; exact h_ (by rw [e_]; rfl)) _; (with_reducible repeat (first | refine blk_drewN ?_ _ | refine blk_drew ?_ | refine blk_alloc ?_ _)); exact BK114.out⟩, ⟨B3_ HB.out GB32.out GE101.out GE114.out⟩⟩
        ·rw [if_neg c25] at H
         have c25b0 : decide (x12_3 < (x11_3.length : Int)) = false := decide_eq_false c25
         (try rw [hl7_1] at c25b0)
         (try rw [hl8_1] at c25b0)
         (try rw [hl7_3] at c25b0)
         (try rw [hl8_3] at c25b0)
         clear c25
         have H' := Aside0.mk H
         clear H
         obtain ⟨Ao36, co36, eo36⟩ := Kd.R_slice HO_11.out
         subst eo36
         go_wp2
         (try simp only [← hl7_1, ← hl8_1, ← hl7_3, ← hl8_3])
         go_roundg k3
         case measure => have := HK1.out; have := HJ17.out; have := HK3.out; omega
         case rel => exact ⟨(x7_3), (x8_3), (wrap64 (x10_1 + 1)), (x115003_3), (u115003), E_, H', ⟨by have := HK1.out; have := HJ17.out; have := HK3.out; omega⟩, ⟨by (try simp only [hl7_1]); (try simp only [hl8_1]); (try simp only [hl7_3]); (try simp only [hl8_3]); (with_reducible repeat (first | apply Kd.R_alloc | apply Kd.R_drewN | apply Kd.R_drew)); exact Kd.R_mono HO_7.out (fun _ hk => ⟨hk.1, hk.2.2⟩)⟩, ⟨by (try simp only [hl7_1]); (try simp only [hl8_1]); (try simp only [hl7_3]); (try simp only [hl8_3]); (with_reducible repeat (first | apply Kd.R_alloc | apply Kd.R_drewN | apply Kd.R_drew)); exact Kd.R_mono HO_8.out (fun _ hk => ⟨hk.1, hk.2.2⟩)⟩, ⟨by (try simp only [hl7_1]); (try simp only [hl8_1]); (try simp only [hl7_3]); (try simp only [hl8_3]); (with_reducible repeat (first | apply Kd.R_alloc | apply Kd.R_drewN | apply Kd.R_drew)); exact Kd.R_mono HO_115003.out (fun _ hk => ⟨hk.1, hk.2.1⟩)⟩, ⟨by (try simp only [hl7_1]); (try simp only [hl8_1]); (try simp only [hl7_3]); (try simp only [hl8_3]); (with_reducible repeat (first | refine blk_drewN ?_ _ | refine blk_drew ?_ | refine blk_alloc ?_ _)); exact BK50.out⟩, ⟨by (try simp only [hl7_1]); (try simp only [hl8_1]); (try simp only [hl7_3]); (try simp only [hl8_3]); (with_reducible repeat (first | refine blk_drewN ?_ _ | refine blk_drew ?_ | refine blk_alloc ?_ _)); exact BK101.out⟩, ⟨by (try simp only [hl7_1]); (try simp only [hl8_1]); (try simp only [hl7_3]); (try simp only [hl8_3]); (with_reducible repeat (first | refine blk_drewN ?_ _ | refine blk_drew ?_ | refine blk_alloc ?_ _)); exact BK114.out⟩, ⟨B2_ HB.out GE101.out GE114.out⟩⟩
     ·replace c20 := Bool.eq_false_iff.mpr c20
      subst c20
      have H1 : (some (t108, t109, t110, x115003_1)) = some (r1, r2, r3, r4) := by rw [if_neg (show ¬ (false = true) by decide)] at H; exact H
      clear H
      have H := H1
      clear H1
      simp only [Option.some.injEq, Prod.mk.injEq] at H
      obtain ⟨rfl, rfl, rfl, rfl⟩ := H
      have hnb37 := NB114_50.out
      have hnc37 := NB50_114.out
      have hnb38 := NB114_101.out
      have hnc38 := NB101_114.out
      have hcz39_0 : wc.cell? ⟨gb114, 0, none⟩ = some (.int .i64 t108) := (blk_cell BK114.out 0).trans rfl
      have hcz39_1 : wc.cell? ⟨gb114, 1, none⟩ = some (.int .i64 t109) := (blk_cell BK114.out 1).trans rfl
      have hcz39_2 : wc.cell? ⟨gb114, 2, none⟩ = some (.int .i64 t110) := (blk_cell BK114.out 2).trans rfl
      have hcz39_3 : wc.cell? ⟨gb114, 3, none⟩ = some (u115003) := (blk_cell BK114.out 3).trans rfl
      have hfz39_0 := blk_frozen BK114.out 0
      have hfz39_1 := blk_frozen BK114.out 1
      have hfz39_2 := blk_frozen BK114.out 2
      have hfz39_3 := blk_frozen BK114.out 3
      have hnb40 := NB101_50.out
      have hnc40 := NB50_101.out
      have hcz41_0 : wc.cell? ⟨gb101, 0, none⟩ = some (.int .i64 0) := (blk_cell BK101.out 0).trans rfl
      have hcz41_1 : wc.cell? ⟨gb101, 1, none⟩ = some (.int .i64 0) := (blk_cell BK101.out 1).trans rfl
      have hcz41_2 : wc.cell? ⟨gb101, 2, none⟩ = some (.int .i64 0) := (blk_cell BK101.out 2).trans rfl
      have hcz41_3 : wc.cell? ⟨gb101, 3, none⟩ = some (.slice none 0 0) := (blk_cell BK101.out 3).trans rfl
      have hfz41_0 := blk_frozen BK101.out 0
      have hfz41_1 := blk_frozen BK101.out 1
      have hfz41_2 := blk_frozen BK101.out 2
      have hfz41_3 := blk_frozen BK101.out 3
      obtain ⟨Ao42, co42, eo42⟩ := Kd.R_slice HO_115003.out
      subst eo42
      go_wp2
      refine bodyPost_ret (results_cell_row rfl _ _ gb101 48 #[.int .i64 t108, .int .i64 t109, .int .i64 t110, .slice Ao42 x115003_1.length co42] (0, 0) _ rfl (by (with_reducible repeat (first | refine blk_drewN ?_ _ | refine blk_drew ?_ | refine blk_alloc ?_ _)); refine blk_put (cs := #[.int .i64 t108, .int .i64 t109, .int .i64 t110, .slice none 0 0]) ?_ 3 _ rfl; (with_reducible repeat (first | refine blk_drewN ?_ _ | refine blk_drew ?_ | refine blk_alloc ?_ _)); refine blk_put (cs := #[.int .i64 t108, .int .i64 t109, .int .i64 0, .slice none 0 0]) ?_ 2 _ rfl; (with_reducible repeat (first | refine blk_drewN ?_ _ | refine blk_drew ?_ | refine blk_alloc ?_ _)); refine blk_put (cs := #[.int .i64 t108, .int .i64 0, .int .i64 0, .slice none 0 0]) ?_ 1 _ rfl; (with_reducible repeat (first | refine blk_drewN ?_ _ | refine blk_drew ?_ | refine blk_alloc ?_ _)); refine blk_put (cs := #[.int .i64 0, .int .i64 0, .int .i64 0, .slice none 0 0]) ?_ 0 _ rfl; (with_reducible repeat (first | refine blk_drewN ?_ _ | refine blk_drew ?_ | refine blk_alloc ?_ _)); exact BK101.out) Try.underlying48 rfl (by kernel_rfl)) rfl ?_
      exact ⟨_, F_, by (with_reducible repeat (first | apply Kd.R_alloc | apply Kd.R_drewN | apply Kd.R_drew)); exact Kd.R_mono (Kd.R_far (p := ⟨gb101, 3, none⟩) (Kd.R_far (p := ⟨gb101, 2, none⟩) (Kd.R_far (p := ⟨gb101, 1, none⟩) (Kd.R_far (p := ⟨gb101, 0, none⟩) (Kd.R_types HO_115003.out BK101.out (by decide)) (fun _ hk => hk.2) (.int .i64 t108)) (fun _ hk => hk.2) (.int .i64 t109)) (fun _ hk => hk.2) (.int .i64 t110)) (fun _ hk => hk.2) (.slice Ao42 x115003_1.length co42)) (fun _ hk => trivial), B2_ HB.out GE101.out GE114.out⟩
end Go.Proofs.Ytipkciildhghiaa.B
