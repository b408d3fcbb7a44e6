/- Printed proofs of functions of the program and of the reference, by a program of this work over the kit's printer. -/
import Derived.Test.YtipkciildhghiaaKPFOJIL0
import Derived.Test.YtipkciildhghiaaKW0
namespace Go.Proofs.Ytipkciildhghiaa.B
open Go.RowKit Go.Proofs.YtipkciildhghiaaW.PrintWords Go.Proofs.YtipkciildhghiaaW.PrintLast Go.Proofs.YtipkciildhghiaaW.PrintMore
attribute [local go_sem] max2_int min2_int max_two min_two max_three min_three max_four min_four
set_option linter.unusedVariables false
set_option linter.unusedSimpArgs false
def z61.l0 : Nat → Int → Int → List (List Int) → List (List Int) → Option ((List (List Int)))
 | 0, _, _, _, _ => none
 | k + 1, x1, x6, x51000, x106000 => if x6 < (x51000.length : Int) then (if 0 ≤ x6 then (if ((rd_ListInt x51000 x6).length : Int) ≤ (wrap64 (x1 + 1)) then ((z82.f (rd_ListInt x51000 x6)).bind fun t108 => (if x106000.length < 5864062014805 then (z61.l0 k x1 (wrap64 (x6 + 1)) x51000 (x106000 ++ [t108])) else (none))) else (z61.l0 k x1 (wrap64 (x6 + 1)) x51000 x106000)) else (none)) else (some x106000)
def z61.f (k : Nat) (l0_0 : List (List Int)) (a1 : Int) : Option ((List (List Int))) := z61.l0 k a1 0 l0_0 (([] : List (List Int)))
def z61.T6 : Bool × List (List Nat × List Nat) := (true, [([], []), ([0], [0]), ([], []), ([2], [2]), ([3], [3]), ([4], [4]), ([], []), ([5, 6], [5, 6]), ([7], [7]), ([8], [8]), ([9], [9]), ([1, 10, 9], [1, 10]), ([0, 1, 2, 3, 4, 5, 6, 7, 8, 9, 10, 11], []), ([12, 11, 11, 0, 1, 2, 3, 4, 5, 6, 7, 8, 9, 10, 11], [11, 12])])
def z61.B6 : List Nat := [0, 1, 0, 4, 12, 28, 0, 124, 252, 508, 1020, 2047, 4095, 8191]
theorem z61.tab6 : rtab .any (opsOf Try.f61 6) = z61.T6 := by kernel_rfl
theorem z61.bits6 : waitsOk z61.T6.2 z61.B6 = true := by kernel_rfl
set_option maxHeartbeats 8000000 in
set_option maxRecDepth 100000 in
theorem z61.calls (k : Nat) (gp0 : Nat) (A0_0 : Option Addr) (c0_0 : Nat) (l0_0 : List (List Int)) (a1 : Int) (r : List (List Int)) (w : World) (hbp0 : w.heap[gp0]? = some (.cells #[.slice A0_0 l0_0.length c0_0] 29 (0, 0))) (hr0_0 : Kd.C (Kd.slice 2 (Kd.int .i64)) w A0_0 l0_0.length l0_0) (hc0_0 : l0_0.length ≤ c0_0) (h : z61.f k l0_0 a1 = some r) :
  Calls Try.prog 61 #[.pointer (some ⟨gp0, 0, none⟩), .int .i64 a1] w fun e w' => ∃ v0_ : Value, e = .returned (.agg #[v0_]) ∧ Kd.S (Kd.slice 2 (Kd.int .i64)) 26 w' w.heap.size (fun _ => True) v0_ r ∧ Below w.heap.size w w' := by
 have hu29 := Try.underlying29
 have HR0_0 := Aside0.mk hr0_0
 have HC0_0 := Aside0.mk hc0_0
 clear hr0_0 hc0_0
 have BK50 := Aside0.mk hbp0
 clear hbp0
 have HB := Aside0.mk (Below.refl w.heap.size w)
 have H : (z61.l0 k a1 0 l0_0 (([] : List (List Int)))) = some r := h
 clear h
 obtain ⟨y102, hy102⟩ : ∃ y_ : List (List Int), y_ = (([] : List (List Int))) := ⟨_, rfl⟩
 replace H : (z61.l0 k a1 0 l0_0 y102) = some r := Y_ hy102 H
 have Ny102 := Aside0.mk hy102
 clear hy102
 have H' := Aside0.mk H
 clear H
 go_enter Try.func61, Try.ntmps61
 go_wp2_with (first | ((with_reducible refine gate_dst (N := 4) rfl ?_); refine box_event ?hg (N := 4) ?hd (cs := #[.slice none 0 0]) (t := 29) ?hr ?_; (case hd => rfl); (case hg => rfl); (case hr => first | (go_simp; done) | (go_simp; rfl)); intro gb101 hg w3 hbox hb; have n0_ := Aside0.mk (blk_below (g := gp0) (o := .cells #[.slice A0_0 l0_0.length c0_0] 29 (0, 0)) (KB_ BK50.out) hb); have n1_ := Aside0.mk (below_step (B_ HB.out) hb); have n2_ := Aside0.mk (hbox); have n3_ := Aside0.mk ((by rw [hg]; exact (below_size (B_ HB.out)) : w.heap.size ≤ gb101)); have n4_ := Aside0.mk ((by rw [hg]; exact (below_size (B_ HB.out)) : w.heap.size ≤ gb101)); have n5_ := Aside0.mk ((by rw [hg]; exact Nat.ne_of_lt (blk_lt (g := gp0) (o := .cells #[.slice A0_0 l0_0.length c0_0] 29 (0, 0)) (KB_ BK50.out)) : gp0 ≠ gb101)); have n6_ := Aside0.mk ((by rw [hg]; exact Nat.ne_of_gt (blk_lt (g := gp0) (o := .cells #[.slice A0_0 l0_0.length c0_0] 29 (0, 0)) (KB_ BK50.out)) : gb101 ≠ gp0)); clear BK50; clear HB; have BK50 := n0_; have HB := n1_; have BK101 := n2_; have GW101 := n3_; have GE101 := n4_; have NB50_101 := n5_; have NB101_50 := n6_; clear n0_ n1_ n2_ n3_ n4_ n5_ n6_; clear hb hbox hg) | ((with_reducible refine gate_dst (N := 7) rfl ?_); refine Kd.S_lit (Kd.slice 2 (Kd.int .i64)) _ 26 ?hg (N := 7) ?hd (xs := ([] : List (List Int))) (inner := []) (ok := fun _ => True) (okp := fun _ => True) ?hr ?hp (fun _ hk => hk) trivial (Below.refl _ _) (Nat.le_refl _) (by simp) ?_; (case hd => rfl); (case hg => rfl); (case hr => first | (go_simp; done) | (go_simp; rfl)); (case hp => exact (Reps.none _ _)); intro v103 w4 ho5 hb hg_ hnew_; clear hg_ hnew_; (first | rw [← Ny102.out] at ho5 | (simp only [Int.reduceToNat] at ho5; rw [← Ny102.out] at ho5)); have HO104 := Aside0.mk (Kd.S_lower ho5 (below_size (B1_ HB.out GE101.out))); replace BK50 := Aside0.mk (blk_below (g := gp0) (o := .cells #[.slice A0_0 l0_0.length c0_0] 29 (0, 0)) (KB_ BK50.out) hb); replace BK101 := Aside0.mk (blk_below (g := gb101) (o := .cells #[.slice none 0 0] 29 (0, 0)) (KB_ BK101.out) hb); replace HB := Aside0.mk (below_step (B1_ HB.out GE101.out) hb); clear hb ho5; obtain ⟨Ao6, co6, eo6⟩ := Kd.S_slice HO104.out; subst eo6) | ((with_reducible refine gate_dst (N := 5) rfl ?_); refine box_event ?hg (N := 5) ?hd (cs := #[.slice none 0 0]) (t := 29) ?hr ?_; (case hd => rfl); (case hg => rfl); (case hr => first | (go_simp; done) | (go_simp; rfl)); intro gb105 hg w7 hbox hb; have n0_ := Aside0.mk (Kd.S_below (KS_ HO104.out) hb); have n1_ := Aside0.mk (blk_below (g := gp0) (o := .cells #[.slice A0_0 l0_0.length c0_0] 29 (0, 0)) (KB_ BK50.out) hb); have n2_ := Aside0.mk (blk_below (g := gb101) (o := .cells #[.slice none 0 0] 29 (0, 0)) (KB_ BK101.out) hb); have n3_ := Aside0.mk (below_step (B1_ HB.out GE101.out) hb); have n4_ := Aside0.mk (hbox); have n5_ := Aside0.mk ((by rw [hg]; exact (below_size (B1_ HB.out GE101.out)) : w.heap.size ≤ gb105)); have n6_ := Aside0.mk ((by rw [hg]; exact (below_size (B1_ HB.out GE101.out)) : w.heap.size ≤ gb105)); have n7_ := Aside0.mk ((by rw [hg]; exact Nat.ne_of_lt (blk_lt (g := gp0) (o := .cells #[.slice A0_0 l0_0.length c0_0] 29 (0, 0)) (KB_ BK50.out)) : gp0 ≠ gb105)); have n8_ := Aside0.mk ((by rw [hg]; exact Nat.ne_of_gt (blk_lt (g := gp0) (o := .cells #[.slice A0_0 l0_0.length c0_0] 29 (0, 0)) (KB_ BK50.out)) : gb105 ≠ gp0)); have n9_ := Aside0.mk ((by rw [hg]; exact Nat.ne_of_lt (blk_lt (g := gb101) (o := .cells #[.slice none 0 0] 29 (0, 0)) (KB_ BK101.out)) : gb101 ≠ gb105)); have n10_ := Aside0.mk ((by rw [hg]; exact Nat.ne_of_gt (blk_lt (g := gb101) (o := .cells #[.slice none 0 0] 29 (0, 0)) (KB_ BK101.out)) : gb105 ≠ gb101)); clear HO104; clear BK50; clear BK101; clear HB; have HO104 := n0_; have BK50 := n1_; have BK101 := n2_; have HB := n3_; have BK105 := n4_; have GW105 := n5_; have GE105 := n6_; have NB50_105 := n7_; have NB105_50 := n8_; have NB101_105 := n9_; have NB105_101 := n10_; clear n0_ n1_ n2_ n3_ n4_ n5_ n6_ n7_ n8_ n9_ n10_; clear hb hbox hg; have hnb8 := NB105_50.out; have hnc8 := NB50_105.out; have hnb9 := NB105_101.out; have hnc9 := NB101_105.out; have hcz10_0 : w7.cell? ⟨gb105, 0, none⟩ = some (.slice none 0 0) := (blk_cell BK105.out 0).trans rfl; have hfz10_0 := blk_frozen BK105.out 0))
 go_loopg [6] k (fun kq v6 w' => ∃ (x6_1 : Int) (x106000_1 : List (List Int)) (u106000 : Value), v6 = .int .i64 x6_1 ∧ Aside0 (z61.l0 kq a1 x6_1 l0_0 x106000_1 = some r) ∧ Aside0 (kq ≤ k) ∧ Aside0 (Kd.S (Kd.slice 2 (Kd.int .i64)) 26 w' w.heap.size (fun _ => True) u106000 x106000_1) ∧ Aside0 (w'.heap[gp0]? = some (.cells #[(.slice A0_0 l0_0.length c0_0)] 29 (0, 0))) ∧ Aside0 (w'.heap[gb101]? = some (.cells #[(.slice none 0 0)] 29 (0, 0))) ∧ Aside0 (w'.heap[gb105]? = some (.cells #[u106000] 29 (0, 0))) ∧ Aside0 (Below w.heap.size w w'))
 case atStart => exact ⟨(0), (y102), (.slice Ao6 y102.length co6), E_, H', ⟨Nat.le_refl _⟩, ⟨by (with_reducible repeat (first | apply Kd.S_alloc | apply Kd.S_drewN | apply Kd.S_drew)); exact Kd.S_mono (Kd.S_far (p := ⟨gb105, 0, none⟩) (Kd.S_types HO104.out BK105.out (by decide)) (fun _ hk => hk.2) (.slice Ao6 y102.length co6)) (fun _ hk => trivial)⟩, ⟨by (with_reducible repeat (first | refine blk_drewN ?_ _ | refine blk_drew ?_ | refine blk_alloc ?_ _)); refine blk_far ?_ NB50_105.out _; (with_reducible repeat (first | refine blk_drewN ?_ _ | refine blk_drew ?_ | refine blk_alloc ?_ _)); exact BK50.out⟩, ⟨by (with_reducible repeat (first | refine blk_drewN ?_ _ | refine blk_drew ?_ | refine blk_alloc ?_ _)); refine blk_far ?_ NB101_105.out _; (with_reducible repeat (first | refine blk_drewN ?_ _ | refine blk_drew ?_ | refine blk_alloc ?_ _)); exact BK101.out⟩, ⟨by (with_reducible repeat (first | refine blk_drewN ?_ _ | refine blk_drew ?_ | refine blk_alloc ?_ _)); refine blk_put (cs := #[.slice none 0 0]) ?_ 0 _ rfl; (with_reducible repeat (first | refine blk_drewN ?_ _ | refine blk_drew ?_ | refine blk_alloc ?_ _)); exact BK105.out⟩, ⟨B2_ HB.out GE101.out GE105.out⟩⟩
 case round =>
  clear H'
  (try clear p2);(try clear c6);(try clear c8);(try clear c9);(try clear hcz10_0);(try clear hfz10_0)
  obtain ⟨x6_1, x106000_1, u106000, rfl, HA, HK1, HO_106000, BK50, BK101, BK105, HB⟩ := hrel
  cases gk with
  | zero => exact absurd HA.out (by simp [z61.l0])
  | succ k1 =>
   have H := HA.out
   clear HA
   simp only [z61.l0] at H
   by_cases c11 : x6_1 < (l0_0.length : Int)
   ·rw [if_pos c11] at H
    have c11b0 : decide (x6_1 < (l0_0.length : Int)) = true := decide_eq_true c11
    clear c11
    have c12 := O1_ H
    replace H := O2_ H
    have c12b0 := decide_eq_true c12
    clear c12
    by_cases c13 : ((rd_ListInt l0_0 x6_1).length : Int) ≤ (wrap64 (a1 + 1))
    ·rw [if_pos c13] at H
     have c13b0 : decide (((rd_ListInt l0_0 x6_1).length : Int) ≤ (wrap64 (a1 + 1))) = true := decide_eq_true c13
     clear c13
     replace H := Option.bind_eq_some_iff.mp H
     obtain ⟨t108, A140, H⟩ := H
     have A14 := Aside0.mk A140
     clear A140
     have c15 := O1_ H
     replace H := O2_ H
     have LMc15 := Aside0.mk c15
     clear c15
     obtain ⟨y111, hy111⟩ : ∃ y_ : List (List Int), y_ = (x106000_1 ++ [t108]) := ⟨_, rfl⟩
     replace H : (z61.l0 k1 a1 (wrap64 (x6_1 + 1)) l0_0 y111) = some r := Y_ hy111 H
     have Ny111 := Aside0.mk hy111
     clear hy111
     have H' := Aside0.mk H
     clear H
     have hnb16 := NB50_101.out
     have hnc16 := NB101_50.out
     have hnb17 := NB50_105.out
     have hnc17 := NB105_50.out
     have hcz18_0 : wr.cell? ⟨gp0, 0, none⟩ = some (.slice A0_0 l0_0.length c0_0) := (blk_cell BK50.out 0).trans rfl
     have hfz18_0 := blk_frozen BK50.out 0
     have p106 : 0 ≤ (x6_1 : Int) := D_
     have q106 : x6_1 < (l0_0.length : Int) := D_
     obtain ⟨ad106, A106_0, c106_0, e106, hx106_0, hl106_0, hi106_0⟩ := at_ListInt HR0_0.out x6_1 p106 q106
     cases e106
     replace hx106_0 := (HB.out.cell (World.block_lt_of_cell? w _ hx106_0)).trans hx106_0
     have HR106_0 := Aside0.mk hi106_0
     have HC106_0 := Aside0.mk hl106_0
     clear hi106_0 hl106_0
     replace p106 := eq_true p106
     replace q106 := eq_true q106
     try go_wp2
     replace HO_106000 := Aside0.mk (Kd.S_drew HO_106000.out)
     replace BK50 := Aside0.mk (blk_drew BK50.out)
     replace BK101 := Aside0.mk (blk_drew BK101.out)
     replace BK105 := Aside0.mk (blk_drew BK105.out)
     replace HB := Aside0.mk (below_drew1 HB.out)
     have p107 : 0 ≤ (x6_1 : Int) := D_
     have q107 : x6_1 < (l0_0.length : Int) := D_
     obtain ⟨ad107, A107_0, c107_0, e107, hx107_0, hl107_0, hi107_0⟩ := at_ListInt HR0_0.out x6_1 p107 q107
     have hw107_0 := hx107_0
     obtain rfl : ad106 = ad107 := (by injection e107)
     replace hx107_0 := (HB.out.cell (World.block_lt_of_cell? w _ hx107_0)).trans hx107_0
     have HR107_0 := Aside0.mk hi107_0
     have HC107_0 := Aside0.mk hl107_0
     clear hi107_0 hl107_0
     replace p107 := eq_true p107
     replace q107 := eq_true q107
     refine start_ (n := 14) (S := fun w' => w'.cell? ⟨gb105, 0, none⟩ = some (u106000) ∧ w'.cell? ⟨gp0, 0, none⟩ = some (.slice (some ad106) l0_0.length c0_0) ∧ w'.cell? (ad106.add (x6_1).toNat) = some (.slice A107_0 (rd_ListInt l0_0 x6_1).length c107_0)) (ds := [13]) (tb_ 14 0) (by kernel_rfl) rfl rfl ⟨(blk_cell BK105.out 0).trans rfl, (blk_cell BK50.out 0).trans rfl, ((HB.out.cell (World.block_lt_of_cell? w _ hw107_0)).trans hw107_0)⟩ (fun hHeld => ?_); refine with_tabW z61.tab6 z61.bits6 (fun HT_ HW_ => ?_)
     generalize wr.drew = w19 at HO_106000 BK50 BK101 BK105 HB HR107_0 hx107_0 hHeld ⊢
     refine PV_ (i := 0) (N := some 29) (tb_ 14 1) HT_ rfl rfl (h := ?_)
     refine PV_ (i := 2) (N := some 31) (tb_ 14 5) HT_ rfl rfl (h := ?_)
     refine PV_ (i := 3) (N := some 32) (tb_ 14 13) HT_ rfl rfl (h := ?_)
     refine PV_ (i := 4) (N := some 33) (tb_ 14 29) HT_ rfl rfl (h := ?_)
     refine PV_ (i := 6) (N := some 35) (tb_ 14 93) HT_ rfl rfl (h := ?_)
     refine TV_ (i := 1) (N := some 30) (tb_ 14 95) HT_ HW_ rfl rfl hHeld (by rintro w' ⟨s0, s1, s2⟩; go_simp; with_reducible rfl) (h := ?_)
     refine TV_ (i := 5) (N := some 34) (tb_ 14 127) HT_ HW_ rfl rfl hHeld (by rintro w' ⟨s0, s1, s2⟩; go_simp; with_reducible rfl) (h := ?_)
     refine PV_ (i := 7) (N := some 36) (tb_ 14 255) HT_ rfl rfl (h := ?_)
     refine TV_ (i := 8) (N := some 37) (tb_ 14 511) HT_ HW_ rfl rfl hHeld (by rintro w' ⟨s0, s1, s2⟩; go_simp; with_reducible rfl) (h := ?_)
     refine one_ (i := 9) (N := some 38) (tb_ 14 1023) rfl rfl (one_of HT_.out (by kernel_rfl)) (by decide) (fun K hK => ?_)
     refine GO_ Try.func82 #[.slice A107_0 (rd_ListInt l0_0 x6_1).length c107_0] (h := ?_)
     with_reducible refine (z82.calls _ _ (rd_ListInt l0_0 x6_1) t108 _ ?side1 ?side2 A14.out).mono ?_
     (case side1 => exact KC_ (Kd.C_below HR107_0.out HB.out))
     (case side2 => exact HC107_0.out)
     rintro e w20 ⟨v109, rfl, ho0, hb⟩
     refine ⟨_, rfl, ?_⟩
     replace HO_106000 := Aside0.mk (Kd.S_elder' (KS_ HO_106000.out) (Kd.R_base ho0) hb)
     have HO110 := Aside0.mk (Kd.R_lower ho0 (below_size (B2_ HB.out GE101.out GE105.out)))
     replace BK50 := Aside0.mk (blk_below (g := gp0) (o := .cells #[.slice (some ad106) l0_0.length c0_0] 29 (0, 0)) (KB_ BK50.out) hb)
     replace BK101 := Aside0.mk (blk_below (g := gb101) (o := .cells #[.slice none 0 0] 29 (0, 0)) (KB_ BK101.out) hb)
     replace BK105 := Aside0.mk (blk_below (g := gb105) (o := .cells #[u106000] 29 (0, 0)) (KB_ BK105.out) hb)
     replace HB := Aside0.mk (below_step (B2_ HB.out GE101.out GE105.out) hb)
     (try clear hb);(try clear hb2);(try clear hk);(try clear hi);(try clear ho0)
     obtain ⟨Ao22, co22, eo22⟩ := Kd.R_slice HO110.out
     (first | subst eo22 | (injection eo22 with f1_ f2_ f3_; have f4_ := f1_.symm; have f5_ := f3_.symm; clear f1_ f2_ f3_; subst f4_; subst f5_))
     refine hK.out _ _ ⟨(blk_cell BK105.out 0).trans rfl, (blk_cell BK50.out 0).trans rfl, ((HB.out.cell (World.block_lt_of_cell? w _ hw107_0)).trans hw107_0)⟩ (fun hHeld => ?_)
     clear hK K
     refine NM_ (N := (some 38)) (h := ?_)
     refine one_ (i := 10) (N := some 39) (tb_ 14 2047) rfl rfl (one_of HT_.out (by kernel_rfl)) (by decide) (fun K hK => ?_)
     refine value_ (w1 := ?_) (v := ?_) (by rfl) rfl ?_ ?_
     rotate_left 2
     ·go_simp
      constructor
      ·rfl
      ·rfl
     refine hK.out _ _ ⟨(blk_cell (blk_alloc BK105.out _) 0).trans rfl, (blk_cell (blk_alloc BK50.out _) 0).trans rfl, (World.cell?_alloc_lt _ _ _ (World.block_lt_of_cell? _ _ (((HB.out.cell (World.block_lt_of_cell? w _ hw107_0)).trans hw107_0)))).trans (((HB.out.cell (World.block_lt_of_cell? w _ hw107_0)).trans hw107_0))⟩ (fun hHeld => ?_)
     clear hK K
     refine NM_ (N := (some 39)) (h := ?_)
     refine one_ (i := 11) (N := some 40) (tb_ 14 4095) rfl rfl (one_of HT_.out (by kernel_rfl)) (by decide) (fun K hK => ?_)
     refine Kd.S_append_step (Kd.slice 2 (Kd.int .i64)) (w0 := w) w.heap.size (by rfl) (.tmp 30) (.tmp 39) 22 26 (.slice none 0 0) 24 rfl Try.underlying22 info26 rfl (by decide) (by omega) u106000 x106000_1 t108 [.slice Ao22 t108.length co22] (fun _ => True) (fun k_ => some k_ = (.slice Ao22 t108.length co22 : Value).ownBlock) rfl rfl ?aP (fun k_ hk_ => ((Kd.R_mono (ok' := fun k_ => ((fun _ => True)) k_ ∧ some k_ ≠ (u106000 : Value).ownBlock) (Kd.R_apart' (HO110.out) (Kd.S_typed HO_106000.out) (by decide)) (fun k_ hk => ⟨trivial, hk.2⟩))).1 k_ hk_.symm) ?aF ?aO ?aB ?aS ?aL ?_
     (case aP => exact Kd.M_row (Kd.R_mono (Kd.R_tight rfl (Kd.R_mono (ok' := fun k_ => ((fun _ => True)) k_ ∧ some k_ ≠ (u106000 : Value).ownBlock) (Kd.R_apart' (HO110.out) (Kd.S_typed HO_106000.out) (by decide)) (fun k_ hk => ⟨trivial, hk.2⟩))) (fun _ h_ => h_)))
     (case aB => exact (B2_ HB.out GE101.out GE105.out))
     (case aF => exact (fun _ _ => trivial))
     (case aO => exact (by (with_reducible repeat (first | apply Kd.S_alloc | apply Kd.S_drewN | apply Kd.S_drew)); exact Kd.S_mono HO_106000.out (fun k_ hk => ⟨trivial, fun e_ => hk.2 e_⟩)))
     (case aS => exact (below_size (B2_ HB.out GE101.out GE105.out)))
     (case aL => have := LMc15.out; omega)
     intro v112 w21 ho hb hg hat
     rw [← Ny111.out] at ho
     replace BK50 := Aside0.mk (blk_grown (g := gp0) (o := .cells #[.slice (some ad106) l0_0.length c0_0] 29 (0, 0)) (KB_ BK50.out) hg (Kd.S_ne HO_106000.out BK50.out (by decide)))
     replace BK101 := Aside0.mk (blk_grown (g := gb101) (o := .cells #[.slice none 0 0] 29 (0, 0)) (KB_ BK101.out) hg (Kd.S_ne HO_106000.out BK101.out (by decide)))
     replace BK105 := Aside0.mk (blk_grown (g := gb105) (o := .cells #[u106000] 29 (0, 0)) (KB_ BK105.out) hg (Kd.S_ne HO_106000.out BK105.out (by decide)))
     replace HB := Aside0.mk (hb)
     have HO113 := Aside0.mk (ho)
     clear HO_106000
     clear HO110
     clear ho hb hg hat
     obtain ⟨Ao23, co23, eo23⟩ := Kd.S_slice HO113.out
     (first | subst eo23 | (injection eo23 with f1_ f2_ f3_; have f4_ := f1_.symm; have f5_ := f3_.symm; clear f1_ f2_ f3_; subst f4_; subst f5_))
     refine hK.out _ _ ⟨(blk_cell BK105.out 0).trans rfl, (blk_cell BK50.out 0).trans rfl, ((HB.out.cell (World.block_lt_of_cell? w _ hw107_0)).trans hw107_0)⟩ (fun hHeld => ?_)
     clear hK K
     refine NM_ (N := (some 40)) (h := ?_)
     refine PV_ (i := 12) (N := some 41) (tb_ 14 8191) HT_ rfl rfl (h := ?_)
     refine last_ (i := 13) (N := none) (tb_ 14 16383) rfl rfl (one_of HT_.out (by kernel_rfl)) (by decide) (fun K hK => ?_)
     have hs24 : w21.cell? ⟨gb105, 0, none⟩ = some (u106000) := (blk_cell BK105.out 0).trans rfl
     have hfs24 := blk_frozen BK105.out 0
     have hns24_0 := NB50_105.out
     have hns24_1 := NB101_105.out
     have hms24_0 := NB105_50.out
     have hms24_1 := NB105_101.out
     refine skip_ (w1 := ?_) (by rfl) rfl ?_ ?_
     rotate_left
     ·go_simp
      rfl
     refine hK.out _ _ ?_
     clear hK K
     refine done_ (done_of HT_.out (by kernel_rfl)) ?_
     try go_wp2
     go_roundg k1
     case measure => exact Q1_ HK1
     case rel => exact ⟨(wrap64 (x6_1 + 1)), (y111), (.slice Ao23 y111.length co23), E_, H', ⟨Q1_ HK1⟩, ⟨by (with_reducible repeat (first | apply Kd.S_alloc | apply Kd.S_drewN | apply Kd.S_drew)); exact Kd.S_mono (Kd.S_far (p := ⟨gb105, 0, none⟩) (Kd.S_types HO113.out BK105.out (by decide)) (fun _ hk => hk.2) (.slice Ao23 y111.length co23)) (fun _ hk => trivial)⟩, ⟨by (with_reducible repeat (first | refine blk_drewN ?_ _ | refine blk_drew ?_ | refine blk_alloc ?_ _)); refine blk_far ?_ NB50_105.out _; (with_reducible repeat (first | refine blk_drewN ?_ _ | refine blk_drew ?_ | refine blk_alloc ?_ _)); exact BK50.out⟩, ⟨by (with_reducible repeat (first | refine blk_drewN ?_ _ | refine blk_drew ?_ | refine blk_alloc ?_ _)); refine blk_far ?_ NB101_105.out _; (with_reducible repeat (first | refine blk_drewN ?_ _ | refine blk_drew ?_ | refine blk_alloc ?_ _)); exact BK101.out⟩, ⟨by (with_reducible repeat (first | refine blk_drewN ?_ _ | refine blk_drew ?_ | refine blk_alloc ?_ _)); refine blk_put (cs := #[u106000]) ?_ 0 _ rfl; (with_reducible repeat (first | refine blk_drewN ?_ _ | refine blk_drew ?_ | refine blk_alloc ?_ _)); exact BK105.out⟩, ⟨B2_ HB.out GE101.out GE105.out⟩⟩
    ·rw [if_neg c13] at H
     have c13b0 : decide (((rd_ListInt l0_0 x6_1).length : Int) ≤ (wrap64 (a1 + 1))) = false := decide_eq_false c13
     clear c13
     have H' := Aside0.mk H
     clear H
     have hnb25 := NB50_101.out
     have hnc25 := NB101_50.out
     have hnb26 := NB50_105.out
     have hnc26 := NB105_50.out
     have hcz27_0 : wr.cell? ⟨gp0, 0, none⟩ = some (.slice A0_0 l0_0.length c0_0) := (blk_cell BK50.out 0).trans rfl
     have hfz27_0 := blk_frozen BK50.out 0
     have p106 : 0 ≤ (x6_1 : Int) := D_
     have q106 : x6_1 < (l0_0.length : Int) := D_
     obtain ⟨ad106, A106_0, c106_0, e106, hx106_0, hl106_0, hi106_0⟩ := at_ListInt HR0_0.out x6_1 p106 q106
     cases e106
     replace hx106_0 := (HB.out.cell (World.block_lt_of_cell? w _ hx106_0)).trans hx106_0
     have HR106_0 := Aside0.mk hi106_0
     have HC106_0 := Aside0.mk hl106_0
     clear hi106_0 hl106_0
     replace p106 := eq_true p106
     replace q106 := eq_true q106
     go_wp2
     go_roundg k1
     case measure => exact Q1_ HK1
     case rel => exact ⟨(wrap64 (x6_1 + 1)), (x106000_1), (u106000), E_, H', ⟨Q1_ HK1⟩, ⟨KS_ HO_106000.out⟩, ⟨KB_ BK50.out⟩, ⟨KB_ BK101.out⟩, ⟨KB_ BK105.out⟩, ⟨B2_ HB.out GE101.out GE105.out⟩⟩
   ·rw [if_neg c11] at H
    have c11b0 : decide (x6_1 < (l0_0.length : Int)) = false := decide_eq_false c11
    clear c11
    obtain rfl := Option.some.inj H
    have hnb28 := NB50_101.out
    have hnc28 := NB101_50.out
    have hnb29 := NB50_105.out
    have hnc29 := NB105_50.out
    have hcz30_0 : wr.cell? ⟨gp0, 0, none⟩ = some (.slice A0_0 l0_0.length c0_0) := (blk_cell BK50.out 0).trans rfl
    have hfz30_0 := blk_frozen BK50.out 0
    have hnb31 := NB105_101.out
    have hnc31 := NB101_105.out
    have hcz32_0 : wr.cell? ⟨gb105, 0, none⟩ = some (u106000) := (blk_cell BK105.out 0).trans rfl
    have hfz32_0 := blk_frozen BK105.out 0
    obtain ⟨Ao33, co33, eo33⟩ := Kd.S_slice HO_106000.out
    subst eo33
    have hcz34_0 : wr.cell? ⟨gb101, 0, none⟩ = some (.slice none 0 0) := (blk_cell BK101.out 0).trans rfl
    have hfz34_0 := blk_frozen BK101.out 0
    go_wp2
    refine bodyPost_ret (results_cell_row rfl _ _ gb101 29 #[.slice Ao33 x106000_1.length co33] (0, 0) _ rfl (by (with_reducible repeat (first | refine blk_drewN ?_ _ | refine blk_drew ?_ | refine blk_alloc ?_ _)); refine blk_put (cs := #[.slice none 0 0]) ?_ 0 _ rfl; (with_reducible repeat (first | refine blk_drewN ?_ _ | refine blk_drew ?_ | refine blk_alloc ?_ _)); exact BK101.out) Try.underlying29 rfl (by kernel_rfl)) rfl ?_
    exact ⟨_, F_, by (with_reducible repeat (first | apply Kd.S_alloc | apply Kd.S_drewN | apply Kd.S_drew)); exact Kd.S_mono (Kd.S_far (p := ⟨gb101, 0, none⟩) (Kd.S_types HO_106000.out BK101.out (by decide)) (fun _ hk => hk.2) (.slice Ao33 x106000_1.length co33)) (fun _ hk => trivial), B2_ HB.out GE101.out GE105.out⟩
end Go.Proofs.Ytipkciildhghiaa.B
