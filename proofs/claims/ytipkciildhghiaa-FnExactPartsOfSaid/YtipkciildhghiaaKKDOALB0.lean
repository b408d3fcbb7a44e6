/- Printed proofs of functions of the program and of the reference, by a program of this work over the kit's printer. -/
import Derived.Test.YtipkciildhghiaaKHGNPLP0
import Derived.Test.YtipkciildhghiaaKLNOJCB0
import Derived.Test.YtipkciildhghiaaKPFOJIL0
import Derived.Test.YtipkciildhghiaaKW0
namespace Go.Proofs.Ytipkciildhghiaa.B
open Go.RowKit Go.Proofs.YtipkciildhghiaaW.PrintWords Go.Proofs.YtipkciildhghiaaW.PrintLast Go.Proofs.YtipkciildhghiaaW.PrintMore
attribute [local go_sem] max2_int min2_int max_two min_two max_three min_three max_four min_four
set_option linter.unusedVariables false
set_option linter.unusedSimpArgs false
mutual
def z57.l0 : Nat → List Int → List Int → Int → List (List Int) → Option (List Int)
 | 0, _, _, _, _ => none
 | k + 1, x3, x4, x5, x51000 => if x5 < (x3.length : Int) then (if 0 ≤ x5 then (if 0 ≤ (rd x3 x5) then (if (rd x3 x5) < (x51000.length : Int) then (if 0 < ((rd_ListInt x51000 (rd x3 x5)).length : Int) then (if x4.length < 17592186044416 then (z57.l0 k x3 (x4 ++ [rd (rd_ListInt x51000 (rd x3 x5)) 0]) (wrap64 (x5 + 1)) x51000) else (none)) else (none)) else (none)) else (none)) else (none)) else ((z89.f k x51000 1).bind fun t113 => (z57.l1 k x4 t113 0 x51000))
def z57.l1 : Nat → List Int → List Int → Int → List (List Int) → Option (List Int)
 | 0, _, _, _, _ => none
 | k + 1, x4, x6, x7, x51000 => if x7 < (x4.length : Int) then (z57.l2 k x4 x6 x7 0 x51000) else (some x4)
def z57.l2 : Nat → List Int → List Int → Int → Int → List (List Int) → Option (List Int)
 | 0, _, _, _, _, _ => none
 | k + 1, x4, x6, x7, x8, x51000 => if x8 < (x6.length : Int) then (if 0 ≤ x8 then (if 0 ≤ (rd x6 x8) then (if (rd x6 x8) < (x51000.length : Int) then (if 1 ≤ ((rd_ListInt x51000 (rd x6 x8)).length : Int) then ((z80.f k x51000 ((rd_ListInt x51000 (rd x6 x8)).take 1)).bind fun t119 => ((z80.f k x51000 ((rd_ListInt x51000 (rd x6 x8)).drop 1)).bind fun t121 => (if 0 ≤ t119 then (if t119 < (x4.length : Int) then (if 0 ≤ t121 then (if t121 < (x4.length : Int) then ((z90.f (rd x4 t119) (rd x4 t121)).bind fun t124 => (z57.l2 k ((x4.set (t119 : Int).toNat t124).set (t121 : Int).toNat t124) x6 x7 (wrap64 (x8 + 1)) x51000)) else (none)) else (none)) else (none)) else (none)))) else (none)) else (none)) else (none)) else (none)) else (z57.l1 k x4 x6 (wrap64 (x7 + 1)) x51000)
end
def z57.f (k : Nat) (l0_0 : List (List Int)) : Option (List Int) := (z89.f k l0_0 0).bind fun t101 => (z57.l0 k t101 (([] : List Int)) 0 l0_0)
def z57.T6 : Bool × List (List Nat × List Nat) := (true, [([], []), ([], []), ([1], [1]), ([2], [2]), ([3], [3]), ([], []), ([], []), ([5, 6], [5, 6]), ([7], [7]), ([4, 8], [4, 8]), ([9], [9]), ([10], [10]), ([11], [11]), ([12], [12]), ([0, 13], [0, 13]), ([14, 14, 0, 1, 2, 3, 4, 5, 6, 7, 8, 9, 10, 11, 12, 13, 14], [0, 14])])
def z57.B6 : List Nat := [0, 0, 2, 6, 14, 0, 0, 96, 224, 510, 1022, 2046, 4094, 8190, 16383, 32767]
theorem z57.tab6 : rtab .any (opsOf Try.f57 6) = z57.T6 := by kernel_rfl
theorem z57.bits6 : waitsOk z57.T6.2 z57.B6 = true := by kernel_rfl
def z57.T14 : Bool × List (List Nat × List Nat) := (true, [([], []), ([0], [0]), ([1], [1]), ([2], [2]), ([], []), ([], []), ([4, 5], [4, 5]), ([6], [6]), ([3, 7], [3, 7]), ([8], [8]), ([9, 0, 1, 2, 3, 4, 5, 6, 7, 8, 9], [9])])
def z57.B14 : List Nat := [0, 1, 3, 7, 0, 0, 48, 112, 255, 511, 1023]
theorem z57.tab14 : rtab .any (opsOf Try.f57 14) = z57.T14 := by kernel_rfl
theorem z57.bits14 : waitsOk z57.T14.2 z57.B14 = true := by kernel_rfl
def z57.T17 : Bool × List (List Nat × List Nat) := (true, [([], []), ([], []), ([0, 1], [0, 1]), ([2], [2]), ([], []), ([], []), ([4, 5], [4, 5]), ([6], [6]), ([3, 7], [3, 7]), ([8, 8, 0, 1, 2, 3, 4, 5, 6, 7, 8], [8])])
def z57.B17 : List Nat := [0, 0, 3, 7, 0, 0, 48, 112, 255, 511]
theorem z57.tab17 : rtab .any (opsOf Try.f57 17) = z57.T17 := by kernel_rfl
theorem z57.bits17 : waitsOk z57.T17.2 z57.B17 = true := by kernel_rfl
set_option maxHeartbeats 8000000 in
set_option maxRecDepth 100000 in
theorem z57.calls (k : Nat) (gp0 : Nat) (A0_0 : Option Addr) (c0_0 : Nat) (l0_0 : List (List Int)) (r : List Int) (w : World) (hbp0 : w.heap[gp0]? = some (.cells #[.slice A0_0 l0_0.length c0_0] 29 (0, 0))) (hr0_0 : Kd.C (Kd.slice 2 (Kd.int .i64)) w A0_0 l0_0.length l0_0) (hc0_0 : l0_0.length ≤ c0_0) (h : z57.f k l0_0 = some r) :
  Calls Try.prog 57 #[.pointer (some ⟨gp0, 0, none⟩)] w fun e w' => ∃ v0_ : Value, e = .returned (v0_) ∧ Kd.R (Kd.int .i64) 2 w' w.heap.size (fun _ => True) v0_ r ∧ Below w.heap.size w w' := by
 have HR0_0 := Aside0.mk hr0_0
 have HC0_0 := Aside0.mk hc0_0
 clear hr0_0 hc0_0
 have BK50 := Aside0.mk hbp0
 clear hbp0
 have HB := Aside0.mk (Below.refl w.heap.size w)
 have H : ((z89.f k l0_0 0).bind fun t101 => (z57.l0 k t101 (([] : List Int)) 0 l0_0)) = some r := h
 clear h
 replace H := Option.bind_eq_some_iff.mp H
 obtain ⟨t101, A20, H⟩ := H
 have A2 := Aside0.mk A20
 clear A20
 obtain ⟨y104, hy104⟩ : ∃ y_ : List Int, y_ = (([] : List Int)) := ⟨_, rfl⟩
 replace H : (z57.l0 k t101 y104 0 l0_0) = some r := Y_ hy104 H
 have Ny104 := Aside0.mk hy104
 clear hy104
 have H' := Aside0.mk H
 clear H
 go_enter Try.func57, Try.ntmps57
 go_wp2_with (first | ((with_reducible refine gate_callee (f := 89) rfl ?_); refine goesL_ (some 14) rfl rfl Try.func89 (by kernel_rfl) rfl #[.pointer (some ⟨gp0, 0, none⟩), .int .i64 0] rfl (by (try simp only [List.map_toArray, List.map_cons, List.map_nil]); first | done | rfl | (simp only [List.length_drop, List.length_take]; rfl)) ?_; (with_reducible refine (z89.calls k gp0 A0_0 c0_0 l0_0 0 t101 _ ?side1 ?side2 ?side3 A2.out).mono ?_); (case side1 => (with_reducible repeat (first | refine blk_drewN ?_ _ | refine blk_drew ?_ | refine blk_alloc ?_ _)); exact BK50.out); (case side2 => exact KC_ HR0_0.out); (case side3 => exact HC0_0.out); rintro e w3 ⟨v102, rfl, ho0, hb⟩; refine ⟨_, rfl, ?_⟩; have HO103 := Aside0.mk (Kd.R_lower ho0 (below_size (B_ HB.out))); replace BK50 := Aside0.mk (blk_below (g := gp0) (o := .cells #[.slice A0_0 l0_0.length c0_0] 29 (0, 0)) (KB_ BK50.out) hb); replace HB := Aside0.mk (below_step (B_ HB.out) hb); (try clear hb); (try clear hb2); (try clear hk); (try clear hi); (try clear ho0)) | ((with_reducible refine gate_dst (N := 15) rfl ?_); refine Kd.R_lit (Kd.int .i64) _ 2 ?hg (N := 15) ?hd (xs := ([] : List Int)) (inner := []) (ok := fun _ => True) (okp := fun _ => True) ?hr ?hp (fun _ hk => hk) trivial (Below.refl _ _) (Nat.le_refl _) (by simp) ?_; (case hd => rfl); (case hg => rfl); (case hr => first | (go_simp; done) | (go_simp; rfl)); (case hp => exact (Reps.none _ _)); intro v105 w4 ho5 hb hg_ hnew_; clear hg_ hnew_; (first | rw [← Ny104.out] at ho5 | (simp only [Int.reduceToNat] at ho5; rw [← Ny104.out] at ho5)); have n0_ := Aside0.mk (Kd.R_elder' (KR_ HO103.out) (Kd.R_base ho5) hb); have n1_ := Aside0.mk (Kd.R_lower (Kd.R_new' ho5 (Kd.R_lt (KR_ HO103.out))) (below_size (B_ HB.out))); have n2_ := Aside0.mk (blk_below (g := gp0) (o := .cells #[.slice A0_0 l0_0.length c0_0] 29 (0, 0)) (KB_ BK50.out) hb); have n3_ := Aside0.mk (below_step (B_ HB.out) hb); clear HO103; clear BK50; clear HB; have HO103 := n0_; have HO106 := n1_; have BK50 := n2_; have HB := n3_; clear n0_ n1_ n2_ n3_; clear hb ho5))
 go_loopg [4, 5] k (fun kq v4 v5 w' => ∃ (x4_1 : List Int) (x5_1 : Int), v5 = .int .i64 x5_1 ∧ Aside0 (z57.l0 kq t101 x4_1 x5_1 l0_0 = some r) ∧ Aside0 (kq ≤ k) ∧ Aside0 (Kd.R (Kd.int .i64) 2 w' w.heap.size (fun k_ => some k_ ≠ (v4 : Value).ownBlock) v102 t101) ∧ Aside0 (Kd.R (Kd.int .i64) 2 w' w.heap.size (fun k_ => some k_ ≠ (v102 : Value).ownBlock) v4 x4_1) ∧ Aside0 (w'.heap[gp0]? = some (.cells #[(.slice A0_0 l0_0.length c0_0)] 29 (0, 0))) ∧ Aside0 (Below w.heap.size w w'))
 case atStart => exact ⟨(y104), (0), E_, H', ⟨Nat.le_refl _⟩, ⟨by (with_reducible repeat (first | apply Kd.R_alloc | apply Kd.R_drewN | apply Kd.R_drew)); exact Kd.R_mono HO103.out (fun _ hk => hk.2)⟩, ⟨by (with_reducible repeat (first | apply Kd.R_alloc | apply Kd.R_drewN | apply Kd.R_drew)); exact Kd.R_mono HO106.out (fun _ hk => hk.2)⟩, ⟨KB_ BK50.out⟩, ⟨B_ HB.out⟩⟩
 case round =>
  clear H'
  (try clear p2);(try clear c5)
  obtain ⟨x4_1, x5_1, rfl, HA, HK1, HO_3, HO_4, BK50, HB⟩ := hrel
  cases gk with
  | zero => exact absurd HA.out (by simp [z57.l0])
  | succ k1 =>
   have H := HA.out
   clear HA
   simp only [z57.l0] at H
   by_cases c6 : x5_1 < (t101.length : Int)
   ·rw [if_pos c6] at H
    have c6b0 : decide (x5_1 < (t101.length : Int)) = true := decide_eq_true c6
    clear c6
    have c7 := O1_ H
    replace H := O2_ H
    have c7b0 := decide_eq_true c7
    clear c7
    have c8 := O1_ H
    replace H := O2_ H
    have c8b0 := decide_eq_true c8
    clear c8
    have c9 := O1_ H
    replace H := O2_ H
    have c9b0 := decide_eq_true c9
    clear c9
    have c10 := O1_ H
    replace H := O2_ H
    have c10b0 := decide_eq_true c10
    have c10b1 : decide (0 < (rd_ListInt l0_0 (rd t101 x5_1)).length) = true := decide_eq_true (by omega)
    clear c10
    have c11 := O1_ H
    replace H := O2_ H
    have LMc11 := Aside0.mk c11
    clear c11
    obtain ⟨y110, hy110⟩ : ∃ y_ : List Int, y_ = (x4_1 ++ [rd (rd_ListInt l0_0 (rd t101 x5_1)) 0]) := ⟨_, rfl⟩
    replace H : (z57.l0 k1 t101 y110 (wrap64 (x5_1 + 1)) l0_0) = some r := Y_ hy110 H
    have Ny110 := Aside0.mk hy110
    clear hy110
    have H' := Aside0.mk H
    clear H
    obtain ⟨Ao12, co12, eo12⟩ := Kd.R_slice HO_3.out
    subst eo12
    try go_wp2
    replace HO_3 := Aside0.mk (Kd.R_drew HO_3.out)
    replace HO_4 := Aside0.mk (Kd.R_drew HO_4.out)
    replace BK50 := Aside0.mk (blk_drew BK50.out)
    replace HB := Aside0.mk (below_drew1 HB.out)
    have p107 : 0 ≤ (x5_1 : Int) := D_
    have q107 : x5_1 < (t101.length : Int) := D_
    obtain ⟨ad107, e107, hx107_0⟩ := Kd.at_int (Kd.R_reads' HO_3.out).2.2 x5_1 p107 q107
    cases e107
    replace p107 := eq_true p107
    replace q107 := eq_true q107
    have p108 : 0 ≤ ((rd t101 x5_1) : Int) := D_
    have q108 : (rd t101 x5_1) < (l0_0.length : Int) := D_
    obtain ⟨ad108, A108_0, c108_0, e108, hx108_0, hl108_0, hi108_0⟩ := at_ListInt HR0_0.out (rd t101 x5_1) p108 q108
    have hw108_0 := hx108_0
    cases e108
    replace hx108_0 := (HB.out.cell (World.block_lt_of_cell? w _ hx108_0)).trans hx108_0
    have HR108_0 := Aside0.mk hi108_0
    have HC108_0 := Aside0.mk hl108_0
    clear hi108_0 hl108_0
    replace p108 := eq_true p108
    replace q108 := eq_true q108
    have p109 : 0 ≤ (0 : Int) := (by omega)
    have q109 : 0 < ((rd_ListInt l0_0 (rd t101 x5_1)).length : Int) := D_
    obtain ⟨ad109, e109, hx109_0⟩ := Kd.at_int HR108_0.out 0 p109 q109
    have hw109_0 := hx109_0
    (try rw [show ((0 : Int)).toNat = 0 from rfl] at hw109_0)
    (try rw [show 0 * 1 = 0 from rfl] at hw109_0)
    (try rw [Addr.add_zero'] at hw109_0)
    cases e109
    have qi109 : (0 < (rd_ListInt l0_0 (rd t101 x5_1)).length) = True := eq_true (by omega)
    (try rw [show ((0 : Int)).toNat = 0 from rfl] at hx109_0)
    (try rw [Addr.add_zero'] at hx109_0)
    replace hx109_0 := (HB.out.cell (World.block_lt_of_cell? w _ hx109_0)).trans hx109_0
    replace p109 := eq_true p109
    replace q109 := eq_true q109
    refine start_ (n := 16) (S := fun w' => w'.cell? ⟨gp0, 0, none⟩ = some (.slice (some ad108) l0_0.length c0_0) ∧ w'.cell? (ad107.add (x5_1).toNat) = some (.int .i64 (rd t101 x5_1)) ∧ w'.cell? (ad108.add ((rd t101 x5_1)).toNat) = some (.slice (some ad109) (rd_ListInt l0_0 (rd t101 x5_1)).length c108_0) ∧ w'.cell? ad109 = some (.int .i64 (rd (rd_ListInt l0_0 (rd t101 x5_1)) 0))) (ds := [13, 14]) (tb_ 16 0) (by kernel_rfl) rfl rfl ⟨(blk_cell BK50.out 0).trans rfl, hx107_0, ((HB.out.cell (World.block_lt_of_cell? w _ hw108_0)).trans hw108_0), ((HB.out.cell (World.block_lt_of_cell? w _ hw109_0)).trans hw109_0)⟩ (fun hHeld => ?_); refine with_tabW z57.tab6 z57.bits6 (fun HT_ HW_ => ?_)
    generalize wr.drew = w13 at HO_3 HO_4 BK50 HB HR108_0 hx107_0 hx108_0 hx109_0 hHeld ⊢
    refine PV_ (i := 0) (N := some 22) (tb_ 16 1) HT_ rfl rfl (h := ?_)
    refine PV_ (i := 1) (N := some 23) (tb_ 16 3) HT_ rfl rfl (h := ?_)
    refine PV_ (i := 2) (N := some 24) (tb_ 16 7) HT_ rfl rfl (h := ?_)
    refine PV_ (i := 3) (N := some 25) (tb_ 16 15) HT_ rfl rfl (h := ?_)
    refine PV_ (i := 5) (N := some 27) (tb_ 16 47) HT_ rfl rfl (h := ?_)
    refine PV_ (i := 6) (N := some 28) (tb_ 16 111) HT_ rfl rfl (h := ?_)
    refine PV_ (i := 7) (N := some 29) (tb_ 16 239) HT_ rfl rfl (h := ?_)
    refine TV_ (i := 4) (N := some 26) (tb_ 16 255) HT_ HW_ rfl rfl hHeld (by rintro w' ⟨s0, s1, s2, s3⟩; go_simp; with_reducible rfl) (h := ?_)
    refine TV_ (i := 8) (N := some 30) (tb_ 16 511) HT_ HW_ rfl rfl hHeld (by rintro w' ⟨s0, s1, s2, s3⟩; go_simp; with_reducible rfl) (h := ?_)
    refine PV_ (i := 9) (N := some 31) (tb_ 16 1023) HT_ rfl rfl (h := ?_)
    refine TV_ (i := 10) (N := some 32) (tb_ 16 2047) HT_ HW_ rfl rfl hHeld (by rintro w' ⟨s0, s1, s2, s3⟩; go_simp; with_reducible rfl) (h := ?_)
    refine PV_ (i := 11) (N := some 33) (tb_ 16 4095) HT_ rfl rfl (h := ?_)
    refine TV_ (i := 12) (N := some 34) (tb_ 16 8191) HT_ HW_ rfl rfl hHeld (by rintro w' ⟨s0, s1, s2, s3⟩; go_simp; with_reducible rfl) (h := ?_)
    refine last_ (i := 13) (N := some 35) (tb_ 16 16383) rfl rfl (one_of HT_.out (by kernel_rfl)) (by decide) (fun K hK => ?_)
    refine value_ (w1 := ?_) (v := ?_) (by rfl) rfl ?_ ?_
    rotate_left 2
    ·go_simp
     constructor
     ·rfl
     ·rfl
    refine hK.out _ _ ?_
    clear hK K
    refine NM_ (N := (some 35)) (h := ?_)
    refine last_ (i := 14) (N := some 36) (tb_ 16 32767) rfl rfl (one_of HT_.out (by kernel_rfl)) (by decide) (fun K hK => ?_)
    refine Kd.R_append_step (Kd.int .i64) (w0 := w) w.heap.size (by rfl) (.tmp 22) (.tmp 35) 26 2 (.int .i64 0) 8 rfl Try.underlying26 info2 rfl (by decide) (by omega) u4 x4_1 (rd (rd_ListInt l0_0 (rd t101 x5_1)) 0) [.int .i64 (rd (rd_ListInt l0_0 (rd t101 x5_1)) 0)] (fun k_ => some k_ ≠ (.slice (some ad107) t101.length co12 : Value).ownBlock) (fun _ => False) rfl rfl ?aP (fun _ hk => hk.elim) ?aF ?aO ?aB ?aS ?aL ?_
    (case aP => exact rfl)
    (case aB => exact (B_ HB.out))
    (case aF => exact (fun k_ hk => Kd.fresh' (Kd.R_lt (KR_ HO_3.out)) k_ hk))
    (case aO => exact (KR_ HO_4.out))
    (case aS => exact (below_size (B_ HB.out)))
    (case aL => have := LMc11.out; omega)
    intro v111 w14 ho hb hg hat
    rw [← Ny110.out] at ho
    replace HO_3 := Aside0.mk (Kd.R_after (ok := (fun _ => True)) (by (with_reducible repeat (first | apply Kd.R_alloc | apply Kd.R_drewN | apply Kd.R_drew)); exact Kd.R_mono HO_3.out (fun _ hk => ⟨trivial, hk⟩)) hg hat)
    replace BK50 := Aside0.mk (blk_grown (g := gp0) (o := .cells #[.slice (some ad108) l0_0.length c0_0] 29 (0, 0)) (KB_ BK50.out) hg (Kd.R_ne HO_4.out BK50.out (by decide)))
    replace HB := Aside0.mk (hb)
    have HO112 := Aside0.mk (ho)
    clear HO_4
    clear ho hb hg hat
    refine hK.out _ _ ?_
    clear hK K
    refine NM_ (N := (some 36)) (h := ?_)
    refine PV_ (i := 15) (N := some 4) (tb_ 16 65535) HT_ rfl rfl (h := ?_)
    refine done_ (done_of HT_.out (by kernel_rfl)) ?_
    try go_wp2
    go_roundg k1
    case measure => exact Q1_ HK1
    case rel => exact ⟨(y110), (wrap64 (x5_1 + 1)), E_, H', ⟨Q1_ HK1⟩, ⟨by (with_reducible repeat (first | apply Kd.R_alloc | apply Kd.R_drewN | apply Kd.R_drew)); exact Kd.R_mono HO_3.out (fun _ hk => hk.2)⟩, ⟨KR_ HO112.out⟩, ⟨KB_ BK50.out⟩, ⟨B_ HB.out⟩⟩
   ·rw [if_neg c6] at H
    have c6b0 : decide (x5_1 < (t101.length : Int)) = false := decide_eq_false c6
    clear c6
    replace H := Option.bind_eq_some_iff.mp H
    obtain ⟨t113, A150, H⟩ := H
    have A15 := Aside0.mk A150
    clear A150
    have H' := Aside0.mk H
    clear H
    obtain ⟨Ao16, co16, eo16⟩ := Kd.R_slice HO_3.out
    subst eo16
    go_wp2_with (first | ((with_reducible refine gate_callee (f := 89) rfl ?_); refine goesL_ (some 38) rfl rfl Try.func89 (by kernel_rfl) rfl #[.pointer (some ⟨gp0, 0, none⟩), .int .i64 1] rfl (by (try simp only [List.map_toArray, List.map_cons, List.map_nil]); first | done | rfl | (simp only [List.length_drop, List.length_take]; rfl)) ?_; (with_reducible refine (z89.calls k1 gp0 A0_0 c0_0 l0_0 1 t113 _ ?side1 ?side2 ?side3 A15.out).mono ?_); (case side1 => (with_reducible repeat (first | refine blk_drewN ?_ _ | refine blk_drew ?_ | refine blk_alloc ?_ _)); exact BK50.out); (case side2 => exact KC_ (Kd.C_below HR0_0.out HB.out)); (case side3 => exact HC0_0.out); rintro e w17 ⟨v114, rfl, ho0, hb⟩; refine ⟨_, rfl, ?_⟩; have n0_ := Aside0.mk (Kd.R_elder' (KR_ HO_3.out) (Kd.R_base ho0) hb); have n1_ := Aside0.mk (Kd.R_elder' (KR_ HO_4.out) (Kd.R_base ho0) hb); have n2_ := Aside0.mk (Kd.R_lower (Kd.R_new' (Kd.R_new' ho0 (Kd.R_lt (KR_ HO_3.out))) (Kd.R_lt (KR_ HO_4.out))) (below_size (B_ HB.out))); have n3_ := Aside0.mk (blk_below (g := gp0) (o := .cells #[.slice A0_0 l0_0.length c0_0] 29 (0, 0)) (KB_ BK50.out) hb); have n4_ := Aside0.mk (below_step (B_ HB.out) hb); clear HO_3; clear HO_4; clear BK50; clear HB; have HO_3 := n0_; have HO_4 := n1_; have HO115 := n2_; have BK50 := n3_; have HB := n4_; clear n0_ n1_ n2_ n3_ n4_; (try clear hb); (try clear hb2); (try clear hk); (try clear hi); (try clear ho0)))
    go_loopg [7] k1 (fun kq v7 w' => ∃ (x4_2 : List Int) (x7_2 : Int), v7 = .int .i64 x7_2 ∧ Aside0 (z57.l1 kq x4_2 t113 x7_2 l0_0 = some r) ∧ Aside0 (kq ≤ k1) ∧ Aside0 (Kd.R (Kd.int .i64) 2 w' w.heap.size (fun k_ => some k_ ≠ (v114 : Value).ownBlock) u4 x4_2) ∧ Aside0 (Kd.R (Kd.int .i64) 2 w' w.heap.size (fun k_ => some k_ ≠ (u4 : Value).ownBlock) v114 t113) ∧ Aside0 (w'.heap[gp0]? = some (.cells #[(.slice A0_0 l0_0.length c0_0)] 29 (0, 0))) ∧ Aside0 (Below w.heap.size w w'))
    case atStart => exact ⟨(x4_1), (0), E_, H', ⟨Nat.le_refl _⟩, ⟨by (with_reducible repeat (first | apply Kd.R_alloc | apply Kd.R_drewN | apply Kd.R_drew)); exact Kd.R_mono HO_4.out (fun _ hk => hk.2)⟩, ⟨by (with_reducible repeat (first | apply Kd.R_alloc | apply Kd.R_drewN | apply Kd.R_drew)); exact Kd.R_mono HO115.out (fun _ hk => hk.2)⟩, ⟨KB_ BK50.out⟩, ⟨B_ HB.out⟩⟩
    case round =>
     clear H'
     (try clear c1);(try clear p1);(try clear q1);(try clear hx1);(try clear qi1);(try clear p2);(try clear c5);(try clear c6);(try clear c6b0);(try clear p6);(try clear c7);(try clear c7b0);(try clear c8);(try clear c8b0);(try clear c9);(try clear c9b0);(try clear c10);(try clear c10b0);(try clear c10b1);(try clear p10);(try clear q10);(try clear hx10);(try clear qi10);(try clear c11);(try clear hx107_0);(try clear hx108_0);(try clear hx109_0);(try clear p107);(try clear p108);(try clear p109);(try clear p2);(try clear q107);(try clear q108);(try clear q109)
     obtain ⟨x4_2, x7_2, rfl, HA, HK2, HO_4, HO_6, BK50, HB⟩ := hrel
     cases gk with
     | zero => exact absurd HA.out (by simp [z57.l1])
     | succ k2 =>
      have H := HA.out
      clear HA
      simp only [z57.l1] at H
      by_cases c18 : x7_2 < (x4_2.length : Int)
      ·rw [if_pos c18] at H
       have c18b0 : decide (x7_2 < (x4_2.length : Int)) = true := decide_eq_true c18
       clear c18
       have H' := Aside0.mk H
       clear H
       obtain ⟨Ao19, co19, eo19⟩ := Kd.R_slice HO_4.out
       subst eo19
       go_wp2
       go_loopg [8] k2 (fun kq v8 w' => ∃ (x4_3 : List Int) (x8_3 : Int), v8 = .int .i64 x8_3 ∧ Aside0 (z57.l2 kq x4_3 t113 x7_2 x8_3 l0_0 = some r) ∧ Aside0 (kq ≤ k2) ∧ Aside0 (Kd.R (Kd.int .i64) 2 w' w.heap.size (fun k_ => some k_ ≠ (v114 : Value).ownBlock) (.slice Ao19 x4_2.length co19) x4_3) ∧ Aside0 (Kd.R (Kd.int .i64) 2 w' w.heap.size (fun k_ => some k_ ≠ ((.slice Ao19 x4_2.length co19) : Value).ownBlock) v114 t113) ∧ Aside0 (w'.heap[gp0]? = some (.cells #[(.slice A0_0 l0_0.length c0_0)] 29 (0, 0))) ∧ Aside0 (Below w.heap.size w w'))
       case atStart => exact ⟨(x4_2), (0), E_, H', ⟨Nat.le_refl _⟩, ⟨KR_ HO_4.out⟩, ⟨KR_ HO_6.out⟩, ⟨KB_ BK50.out⟩, ⟨B_ HB.out⟩⟩
       case round =>
        clear H'
        (try clear c1);(try clear p1);(try clear q1);(try clear hx1);(try clear qi1);(try clear p2);(try clear c5);(try clear c6);(try clear c6b0);(try clear p6);(try clear c7);(try clear c7b0);(try clear c8);(try clear c8b0);(try clear c9);(try clear c9b0);(try clear c10);(try clear c10b0);(try clear c10b1);(try clear p10);(try clear q10);(try clear hx10);(try clear qi10);(try clear c11);(try clear c18);(try clear c18b0);(try clear hx107_0);(try clear hx108_0);(try clear hx109_0);(try clear p1);(try clear p10);(try clear p107);(try clear p108);(try clear p109);(try clear p2);(try clear p6);(try clear q1);(try clear q10);(try clear q107);(try clear q108);(try clear q109)
        obtain ⟨x4_3, x8_3, rfl, HA, HK3, HO_4, HO_6, BK50, HB⟩ := hrel
        have hl4_3 := (Kd.R_reads' HO_4.out).1
        rw [hl4_3] at HO_4
        (try simp only [hl4_3])
        (try simp only [hl4_3] at BK50)
        (try simp only [hl4_3] at HO_6)
        cases gk with
        | zero => exact absurd HA.out (by simp [z57.l2])
        | succ k3 =>
         have H := HA.out
         clear HA
         simp only [z57.l2] at H
         by_cases c20 : x8_3 < (t113.length : Int)
         ·rw [if_pos c20] at H
          have c20b0 : decide (x8_3 < (t113.length : Int)) = true := decide_eq_true c20
          (try rw [hl4_3] at c20b0)
          clear c20
          have c21 := O1_ H
          replace H := O2_ H
          have c21b0 := decide_eq_true c21
          (try rw [hl4_3] at c21b0)
          clear c21
          have c22 := O1_ H
          replace H := O2_ H
          have c22b0 := decide_eq_true c22
          (try rw [hl4_3] at c22b0)
          clear c22
          have c23 := O1_ H
          replace H := O2_ H
          have c23b0 := decide_eq_true c23
          (try rw [hl4_3] at c23b0)
          clear c23
          have c24 := O1_ H
          replace H := O2_ H
          have c24b0 := eq_true c24
          have c24b1 : decide (1 ≤ ((rd_ListInt l0_0 (rd t113 x8_3)).length : Int)) = true := decide_eq_true c24
          clear c24
          replace H := Option.bind_eq_some_iff.mp H
          obtain ⟨t119, A250, H⟩ := H
          have A25 := Aside0.mk A250
          clear A250
          have c26b0 := eq_true (D_ : 1 ≤ ((rd_ListInt l0_0 (rd t113 x8_3)).length : Int))
          replace H := Option.bind_eq_some_iff.mp H
          obtain ⟨t121, A270, H⟩ := H
          have A27 := Aside0.mk A270
          clear A270
          have c28 := O1_ H
          replace H := O2_ H
          have c28b0 := decide_eq_true c28
          (try rw [hl4_3] at c28b0)
          clear c28
          have c29 := O1_ H
          replace H := O2_ H
          have c29b0 := decide_eq_true c29
          (try rw [hl4_3] at c29b0)
          clear c29
          have c30 := O1_ H
          replace H := O2_ H
          have c30b0 := decide_eq_true c30
          (try rw [hl4_3] at c30b0)
          clear c30
          have c31 := O1_ H
          replace H := O2_ H
          have c31b0 := decide_eq_true c31
          (try rw [hl4_3] at c31b0)
          clear c31
          replace H := Option.bind_eq_some_iff.mp H
          obtain ⟨t124, A320, H⟩ := H
          have A32 := Aside0.mk A320
          clear A320
          obtain ⟨y125, hy125⟩ : ∃ y_ : List Int, y_ = (x4_3.set (t119 : Int).toNat t124) := ⟨_, rfl⟩
          replace H : (z57.l2 k3 (y125.set (t121 : Int).toNat t124) t113 x7_2 (wrap64 (x8_3 + 1)) l0_0) = some r := Y_ hy125 H
          have Ny125 := Aside0.mk hy125
          clear hy125
          obtain ⟨y126, hy126⟩ : ∃ y_ : List Int, y_ = (y125.set (t121 : Int).toNat t124) := ⟨_, rfl⟩
          replace H : (z57.l2 k3 y126 t113 x7_2 (wrap64 (x8_3 + 1)) l0_0) = some r := Y_ hy126 H
          have Ny126 := Aside0.mk hy126
          clear hy126
          have H' := Aside0.mk H
          clear H
          obtain ⟨Ao35, co35, eo35⟩ := Kd.R_slice HO_6.out
          subst eo35
          try go_wp2
          replace HO_4 := Aside0.mk (Kd.R_drew HO_4.out)
          replace HO_6 := Aside0.mk (Kd.R_drew HO_6.out)
          replace BK50 := Aside0.mk (blk_drew BK50.out)
          replace HB := Aside0.mk (below_drew1 HB.out)
          have p116 : 0 ≤ (x8_3 : Int) := D_
          have q116 : x8_3 < (t113.length : Int) := D_
          obtain ⟨ad116, e116, hx116_0⟩ := Kd.at_int (Kd.R_reads' HO_6.out).2.2 x8_3 p116 q116
          cases e116
          replace p116 := eq_true p116
          replace q116 := eq_true q116
          have p117 : 0 ≤ ((rd t113 x8_3) : Int) := D_
          have q117 : (rd t113 x8_3) < (l0_0.length : Int) := D_
          obtain ⟨ad117, A117_0, c117_0, e117, hx117_0, hl117_0, hi117_0⟩ := at_ListInt HR0_0.out (rd t113 x8_3) p117 q117
          have hw117_0 := hx117_0
          cases e117
          replace hx117_0 := (HB.out.cell (World.block_lt_of_cell? w _ hx117_0)).trans hx117_0
          have HR117_0 := Aside0.mk hi117_0
          have HC117_0 := Aside0.mk hl117_0
          clear hi117_0 hl117_0
          replace p117 := eq_true p117
          replace q117 := eq_true q117
          refine start_ (n := 11) (S := fun w' => w'.cell? ⟨gp0, 0, none⟩ = some (.slice (some ad117) l0_0.length c0_0) ∧ w'.cell? (ad116.add (x8_3).toNat) = some (.int .i64 (rd t113 x8_3)) ∧ w'.cell? (ad117.add ((rd t113 x8_3)).toNat) = some (.slice A117_0 (rd_ListInt l0_0 (rd t113 x8_3)).length c117_0)) (ds := []) (tb_ 11 0) (by kernel_rfl) rfl rfl ⟨(blk_cell BK50.out 0).trans rfl, hx116_0, ((HB.out.cell (World.block_lt_of_cell? w _ hw117_0)).trans hw117_0)⟩ (fun hHeld => ?_); refine with_tabW z57.tab14 z57.bits14 (fun HT_ HW_ => ?_)
          generalize wr.drew = w36 at HO_4 HO_6 BK50 HB HR117_0 hx116_0 hx117_0 hHeld ⊢
          refine PV_ (i := 0) (N := some 51) (tb_ 11 1) HT_ rfl rfl (h := ?_)
          refine PV_ (i := 1) (N := some 52) (tb_ 11 3) HT_ rfl rfl (h := ?_)
          refine PV_ (i := 2) (N := some 53) (tb_ 11 7) HT_ rfl rfl (h := ?_)
          refine PV_ (i := 4) (N := some 55) (tb_ 11 23) HT_ rfl rfl (h := ?_)
          refine PV_ (i := 5) (N := some 56) (tb_ 11 55) HT_ rfl rfl (h := ?_)
          refine PV_ (i := 6) (N := some 57) (tb_ 11 119) HT_ rfl rfl (h := ?_)
          refine TV_ (i := 3) (N := some 54) (tb_ 11 127) HT_ HW_ rfl rfl hHeld (by rintro w' ⟨s0, s1, s2⟩; go_simp; with_reducible rfl) (h := ?_)
          refine TV_ (i := 7) (N := some 58) (tb_ 11 255) HT_ HW_ rfl rfl hHeld (by rintro w' ⟨s0, s1, s2⟩; go_simp; with_reducible rfl) (h := ?_)
          refine PV_ (i := 8) (N := some 59) (tb_ 11 511) HT_ rfl rfl (h := ?_)
          refine TV_ (i := 9) (N := some 60) (tb_ 11 1023) HT_ HW_ rfl rfl hHeld (by rintro w' ⟨s0, s1, s2⟩; go_simp; with_reducible rfl) (h := ?_)
          refine PV_ (i := 10) (N := some 9) (tb_ 11 2047) HT_ rfl rfl (h := ?_)
          refine done_ (done_of HT_.out (by kernel_rfl)) ?_
          obtain ⟨i037, hi037, _, hsz37, _⟩ := info_parts info2
          obtain ⟨hcut37, hA37, hC37⟩ := print_take_of (P := Try.prog) (Value.int .i64) 0 26 2 .i64 Try.underlying26 hi037 hsz37 A117_0 c117_0 (rd_ListInt l0_0 (rd t113 x8_3)) 1 (by omega) (D_) HC117_0.out
          have HR118 := Aside0.mk (Kd.C_of_reads (h1 := fun _ => rfl) (hA37 _ (Kd.reads_of_C HR117_0.out)))
          have HC118 := Aside0.mk hC37
          clear hA37 hC37 hi037 hsz37
          try go_wp2_with (first | ((with_reducible refine gate_callee (f := 80) rfl ?_); refine goesL_ (some 64) rfl rfl Try.func80 (by kernel_rfl) rfl #[.pointer (some ⟨gp0, 0, none⟩), .slice A117_0 ((rd_ListInt l0_0 (rd t113 x8_3)).take 1).length c117_0] rfl (by (try simp only [List.map_toArray, List.map_cons, List.map_nil]); first | done | (rw [show ((rd_ListInt l0_0 (rd t113 x8_3)).take 1).length = 1 from (by rw [List.length_take]; have h_ : (1 : Int) ≤ ((rd_ListInt l0_0 (rd t113 x8_3)).length : Int) := D_; omega)] <;> rfl) | rfl | (simp only [List.length_drop, List.length_take]; rfl)) ?_; (with_reducible refine (z80.calls k3 gp0 (some ad117) c0_0 l0_0 _ _ ((rd_ListInt l0_0 (rd t113 x8_3)).take 1) t119 _ ?side1 ?side2 ?side3 ?side4 ?side5 A25.out).mono ?_); (case side1 => (with_reducible repeat (first | refine blk_drewN ?_ _ | refine blk_drew ?_ | refine blk_alloc ?_ _)); exact BK50.out); (case side2 => exact KC_ (Kd.C_below HR0_0.out HB.out)); (case side3 => exact HC0_0.out); (case side4 => exact KC_ (Kd.C_below HR118.out HB.out)); (case side5 => exact HC118.out); rintro e w' ⟨rfl, ⟨nd, rfl⟩⟩; refine ⟨_, rfl, ?_⟩; (try (rw [drewN_self w36]; generalize hq_ : World.drewN w36 _ = w36; have n0_ : Aside0 (Kd.R (Kd.int .i64) 2 w36 w.heap.size (fun k_ => some k_ ≠ (.slice (some ad116) t113.length co35 : Value).ownBlock) (.slice Ao19 x4_3.length co19) x4_3) := ⟨by rw [← hq_]; exact (KR_ HO_4.out)⟩; have n1_ : Aside0 (Kd.R (Kd.int .i64) 2 w36 w.heap.size (fun k_ => some k_ ≠ (.slice Ao19 x4_3.length co19 : Value).ownBlock) (.slice (some ad116) t113.length co35) t113) := ⟨by rw [← hq_]; exact (KR_ HO_6.out)⟩; have n2_ : Aside0 (w36.heap[gp0]? = some (.cells #[.slice (some ad117) l0_0.length c0_0] 29 (0, 0))) := ⟨by rw [← hq_]; exact (KB_ BK50.out)⟩; have n3_ : Aside0 (Below w.heap.size w w36) := ⟨by rw [← hq_]; exact (B_ HB.out)⟩; clear HO_4 HO_6 BK50 HB hq_; have HO_4 := n0_; have HO_6 := n1_; have BK50 := n2_; have HB := n3_; clear n0_ n1_ n2_ n3_)); obtain ⟨i038, hi038, _, hsz38, _⟩ := info_parts info2; obtain ⟨A38, hcut38, hA38, hC38⟩ := print_drop_of (P := Try.prog) (Value.int .i64) 0 26 2 .i64 Try.underlying26 hi038 hsz38 A117_0 c117_0 (rd_ListInt l0_0 (rd t113 x8_3)) 1 (by omega) (D_) HC117_0.out; have HR120 := Aside0.mk (Kd.C_of_reads (h1 := fun _ => rfl) (hA38 _ (Kd.reads_of_C HR117_0.out))); have HC120 := Aside0.mk hC38; clear hA38 hC38 hi038 hsz38) | ((with_reducible refine gate_callee (f := 80) rfl ?_); refine goesL_ (some 68) rfl rfl Try.func80 (by kernel_rfl) rfl #[.pointer (some ⟨gp0, 0, none⟩), .slice A38 ((rd_ListInt l0_0 (rd t113 x8_3)).drop 1).length (c117_0 - 1)] rfl (by (try simp only [List.map_toArray, List.map_cons, List.map_nil]); first | done | (rw [show ((rd_ListInt l0_0 (rd t113 x8_3)).drop 1).length = ((rd_ListInt l0_0 (rd t113 x8_3)).length - 1) from List.length_drop] <;> rfl) | rfl | (simp only [List.length_drop, List.length_take]; rfl)) ?_; (with_reducible refine (z80.calls k3 gp0 (some ad117) c0_0 l0_0 _ _ ((rd_ListInt l0_0 (rd t113 x8_3)).drop 1) t121 _ ?side1 ?side2 ?side3 ?side4 ?side5 A27.out).mono ?_); (case side1 => (with_reducible repeat (first | refine blk_drewN ?_ _ | refine blk_drew ?_ | refine blk_alloc ?_ _)); exact BK50.out); (case side2 => exact KC_ (Kd.C_below HR0_0.out HB.out)); (case side3 => exact HC0_0.out); (case side4 => exact KC_ (Kd.C_below HR120.out HB.out)); (case side5 => exact HC120.out); rintro e w' ⟨rfl, ⟨nd, rfl⟩⟩; refine ⟨_, rfl, ?_⟩; (try (rw [drewN_self w36]; generalize hq_ : World.drewN w36 _ = w36; have n0_ : Aside0 (Kd.R (Kd.int .i64) 2 w36 w.heap.size (fun k_ => some k_ ≠ (.slice (some ad116) t113.length co35 : Value).ownBlock) (.slice Ao19 x4_3.length co19) x4_3) := ⟨by rw [← hq_]; exact (KR_ HO_4.out)⟩; have n1_ : Aside0 (Kd.R (Kd.int .i64) 2 w36 w.heap.size (fun k_ => some k_ ≠ (.slice Ao19 x4_3.length co19 : Value).ownBlock) (.slice (some ad116) t113.length co35) t113) := ⟨by rw [← hq_]; exact (KR_ HO_6.out)⟩; have n2_ : Aside0 (w36.heap[gp0]? = some (.cells #[.slice (some ad117) l0_0.length c0_0] 29 (0, 0))) := ⟨by rw [← hq_]; exact (KB_ BK50.out)⟩; have n3_ : Aside0 (Below w.heap.size w w36) := ⟨by rw [← hq_]; exact (B_ HB.out)⟩; clear HO_4 HO_6 BK50 HB hq_; have HO_4 := n0_; have HO_6 := n1_; have BK50 := n2_; have HB := n3_; clear n0_ n1_ n2_ n3_))))
          replace HO_4 := Aside0.mk (Kd.R_drew HO_4.out)
          replace HO_6 := Aside0.mk (Kd.R_drew HO_6.out)
          replace BK50 := Aside0.mk (blk_drew BK50.out)
          replace HB := Aside0.mk (below_drew1 HB.out)
          have p122 : 0 ≤ (t119 : Int) := D_
          have q122 : t119 < (x4_3.length : Int) := D_
          obtain ⟨ad122, e122, hx122_0⟩ := Kd.at_int (Kd.R_reads' HO_4.out).2.2 t119 p122 q122
          cases e122
          replace p122 := eq_true p122
          replace q122 := eq_true q122
          have p123 : 0 ≤ (t121 : Int) := D_
          have q123 : t121 < (x4_3.length : Int) := D_
          obtain ⟨ad123, e123, hx123_0⟩ := Kd.at_int (Kd.R_reads' HO_4.out).2.2 t121 p123 q123
          obtain rfl : ad122 = ad123 := (by injection e123)
          replace p123 := eq_true p123
          replace q123 := eq_true q123
          refine start_ (n := 10) (S := fun w' => w'.cell? (ad122.add (t119).toNat) = some (.int .i64 (rd x4_3 t119)) ∧ w'.cell? (ad122.add (t121).toNat) = some (.int .i64 (rd x4_3 t121))) (ds := []) (tb_ 10 0) (by kernel_rfl) rfl rfl ⟨hx122_0, hx123_0⟩ (fun hHeld => ?_); refine with_tabW z57.tab17 z57.bits17 (fun HT_ HW_ => ?_)
          generalize w36.drew = w39 at HO_4 HO_6 BK50 HB hx122_0 hx123_0 hHeld ⊢
          refine PV_ (i := 0) (N := some 69) (tb_ 10 1) HT_ rfl rfl (h := ?_)
          refine PV_ (i := 1) (N := some 70) (tb_ 10 3) HT_ rfl rfl (h := ?_)
          refine PV_ (i := 2) (N := some 71) (tb_ 10 7) HT_ rfl rfl (h := ?_)
          refine PV_ (i := 4) (N := some 73) (tb_ 10 23) HT_ rfl rfl (h := ?_)
          refine PV_ (i := 5) (N := some 74) (tb_ 10 55) HT_ rfl rfl (h := ?_)
          refine PV_ (i := 6) (N := some 75) (tb_ 10 119) HT_ rfl rfl (h := ?_)
          refine TV_ (i := 3) (N := some 72) (tb_ 10 127) HT_ HW_ rfl rfl hHeld (by rintro w' ⟨s0, s1⟩; go_simp; with_reducible rfl) (h := ?_)
          refine TV_ (i := 7) (N := some 76) (tb_ 10 255) HT_ HW_ rfl rfl hHeld (by rintro w' ⟨s0, s1⟩; go_simp; with_reducible rfl) (h := ?_)
          refine one_ (i := 8) (N := some 77) (tb_ 10 511) rfl rfl (one_of HT_.out (by kernel_rfl)) (by decide) (fun K hK => ?_)
          refine GO_ Try.func90 #[.int .i64 (rd x4_3 t119), .int .i64 (rd x4_3 t121)] (h := ?_)
          with_reducible refine (z90.calls (rd x4_3 t119) (rd x4_3 t121) t124 _ A32.out).mono ?_
          rintro e w' ⟨rfl, ⟨nd, rfl⟩⟩
          refine ⟨_, rfl, ?_⟩
          refine hK.out _ _ ⟨hHeld.1, hHeld.2⟩ (fun hHeld => ?_)
          clear hK K
          refine NM_ (N := (some 77)) (h := ?_)
          refine PV_ (i := 9) (N := some 12) (tb_ 10 1023) HT_ rfl rfl (h := ?_)
          refine done_ (done_of HT_.out (by kernel_rfl)) ?_
          (try (rw [drewN_self w39]; generalize hq_ : World.drewN w39 _ = w39; have n0_ : Aside0 (Kd.R (Kd.int .i64) 2 w39 w.heap.size (fun k_ => some k_ ≠ (.slice (some ad116) t113.length co35 : Value).ownBlock) (.slice (some ad122) x4_3.length co19) x4_3) := ⟨by rw [← hq_]; exact (KR_ HO_4.out)⟩; have n1_ : Aside0 (Kd.R (Kd.int .i64) 2 w39 w.heap.size (fun k_ => some k_ ≠ (.slice (some ad122) x4_3.length co19 : Value).ownBlock) (.slice (some ad116) t113.length co35) t113) := ⟨by rw [← hq_]; exact (KR_ HO_6.out)⟩; have n2_ : Aside0 (w39.heap[gp0]? = some (.cells #[.slice (some ad117) l0_0.length c0_0] 29 (0, 0))) := ⟨by rw [← hq_]; exact (KB_ BK50.out)⟩; have n3_ : Aside0 (Below w.heap.size w w39) := ⟨by rw [← hq_]; exact (B_ HB.out)⟩; clear HO_4 HO_6 BK50 HB hq_; have HO_4 := n0_; have HO_6 := n1_; have BK50 := n2_; have HB := n3_; clear n0_ n1_ n2_ n3_))
          have p33 : 0 ≤ (t119 : Int) := D_
          have q33 : (t119 : Int) < ((x4_3.length : Int) : Int) := D_
          obtain ⟨go33, co33, eo33, gb33, gl33, cl33, HG33⟩ := Kd.R_form HO_4.out (by omega)
          (first | cases eo33 | (injection eo33 with ea_ en_ ec_; (first | subst ea_ | (injection ea_ with ea_; subst ea_)); subst ec_; clear en_))
          have GB33 := Aside0.mk gb33
          have GG33 := Aside0.mk HG33
          clear gb33 gl33 HG33
          (first | simp only [add_plain] at hx122_0 | skip)
          (first | simp only [add_plain] at hx123_0 | skip)
          obtain ⟨hx33_0, hf33_0⟩ := Kd.R_celln 0 HO_4.out (t119 : Int) p33 q33
          replace p33 := eq_true p33
          replace q33 := eq_true q33
          obtain ⟨hy40_, hz40_⟩ := Kd.R_celln 0 HO_4.out (t119 : Int) (D_) (D_)
          have HP40 := Kd.R_putg HO_4.out (t119 : Int) t124
          try go_wp2_with (first | ((with_reducible refine gate_store (t := 2) (p := 81) rfl ?_); refine store_event (t := 2) (p := 81) (v := ?vo_w41) (w1 := (w39.setCell ⟨go33, (t119 : Int).toNat, none⟩ (.int .i64 t124))) ?hg ?ho ?hn ?hr ?_; (case ho => rfl); (case hg => rfl); (case hn => rfl); (case hr => first | (go_simp; done) | (go_simp; rfl)); intro w41 hw; have hg : w39.grownBy w41 (some go33) := (by rw [hw]; exact HP40.2); have hp_ : Kd.R (Kd.int .i64) 2 w41 w.heap.size (fun k_ => some k_ ≠ (.slice (some ad116) t113.length co35 : Value).ownBlock) (.slice (some ⟨go33, 0, none⟩) x4_3.length co19) y125 := (by rw [hw, Ny125.out]; exact HP40.1); clear HP40; have n0_ := Aside0.mk (hp_); have n1_ := Aside0.mk (Kd.R_after (v := (.slice (some ⟨go33, 0, none⟩) x4_3.length co19)) (v1 := (.slice (some ⟨go33, 0, none⟩) x4_3.length co19)) (ok := (fun _ => True)) (by (with_reducible repeat (first | apply Kd.R_alloc | apply Kd.R_drewN | apply Kd.R_drew)); exact Kd.R_mono HO_6.out (fun _ hk => ⟨trivial, hk⟩)) hg (.inl rfl)); have n2_ := Aside0.mk (blk_grown (g := gp0) (o := .cells #[.slice (some ad117) l0_0.length c0_0] 29 (0, 0)) (KB_ BK50.out) hg (Kd.R_ne HO_4.out BK50.out (by decide))); have n3_ := Aside0.mk ((by rw [hw]; exact below_set (HB.out) GB33.out : Below w.heap.size w w41)); clear HO_4; clear HO_6; clear BK50; clear HB; have HO_4 := n0_; have HO_6 := n1_; have BK50 := n2_; have HB := n3_; clear n0_ n1_ n2_ n3_; clear hg hw hp_; have p34 : 0 ≤ (t121 : Int) := D_; have q34 : (t121 : Int) < ((x4_3.length : Int) : Int) := D_; obtain ⟨hx34_0, hf34_0⟩ := Kd.R_celln 0 HO_4.out (t121 : Int) p34 q34; replace p34 := eq_true p34; replace q34 := eq_true q34; obtain ⟨hy42_, hz42_⟩ := Kd.R_celln 0 HO_4.out (t121 : Int) (D_) (D_); have HP42 := Kd.R_putg HO_4.out (t121 : Int) t124) | ((with_reducible refine gate_store (t := 2) (p := 85) rfl ?_); refine store_event (t := 2) (p := 85) (v := ?vo_w43) (w1 := (w41.setCell ⟨go33, (t121 : Int).toNat, none⟩ (.int .i64 t124))) ?hg ?ho ?hn ?hr ?_; (case ho => rfl); (case hg => rfl); (case hn => rfl); (case hr => first | (go_simp; done) | (go_simp; rfl)); intro w43 hw; have hg : w41.grownBy w43 (some go33) := (by rw [hw]; exact HP42.2); have hp_ : Kd.R (Kd.int .i64) 2 w43 w.heap.size (fun k_ => some k_ ≠ (.slice (some ad116) t113.length co35 : Value).ownBlock) (.slice (some ⟨go33, 0, none⟩) x4_3.length co19) y126 := (by rw [hw, Ny126.out]; exact HP42.1); clear HP42; have n0_ := Aside0.mk (hp_); have n1_ := Aside0.mk (Kd.R_after (v := (.slice (some ⟨go33, 0, none⟩) x4_3.length co19)) (v1 := (.slice (some ⟨go33, 0, none⟩) x4_3.length co19)) (ok := (fun _ => True)) (KR_ HO_6.out) hg (.inl rfl)); have n2_ := Aside0.mk (blk_grown (g := gp0) (o := .cells #[.slice (some ad117) l0_0.length c0_0] 29 (0, 0)) (KB_ BK50.out) hg (Kd.R_ne HO_4.out BK50.out (by decide))); have n3_ := Aside0.mk ((by rw [hw]; exact below_set (HB.out) GB33.out : Below w.heap.size w w43)); clear HO_4; clear HO_6; clear BK50; clear HB; have HO_4 := n0_; have HO_6 := n1_; have BK50 := n2_; have HB := n3_; clear n0_ n1_ n2_ n3_; clear hg hw hp_))
          (try simp only [← hl4_3])
          go_roundg k3
          case measure => exact Q3_ HK1 HK2 HK3
          case rel => exact ⟨(y126), (wrap64 (x8_3 + 1)), E_, H', ⟨Q3_ HK1 HK2 HK3⟩, ⟨by (try simp only [hl4_3]); (with_reducible repeat (first | apply Kd.R_alloc | apply Kd.R_drewN | apply Kd.R_drew)); exact HO_4.out⟩, ⟨by (try simp only [hl4_3]); (with_reducible repeat (first | apply Kd.R_alloc | apply Kd.R_drewN | apply Kd.R_drew)); exact Kd.R_mono HO_6.out (fun _ hk => hk.2)⟩, ⟨by (try simp only [hl4_3]); (with_reducible repeat (first | refine blk_drewN ?_ _ | refine blk_drew ?_ | refine blk_alloc ?_ _)); exact BK50.out⟩, ⟨B_ HB.out⟩⟩
         ·rw [if_neg c20] at H
          have c20b0 : decide (x8_3 < (t113.length : Int)) = false := decide_eq_false c20
          (try rw [hl4_3] at c20b0)
          clear c20
          have H' := Aside0.mk H
          clear H
          obtain ⟨Ao44, co44, eo44⟩ := Kd.R_slice HO_6.out
          subst eo44
          go_wp2
          (try simp only [← hl4_3])
          go_roundg k3
          case measure => exact Q3_ HK1 HK2 HK3
          case rel => exact ⟨(x4_3), (wrap64 (x7_2 + 1)), E_, H', ⟨Q3_ HK1 HK2 HK3⟩, ⟨by (try simp only [hl4_3]); (with_reducible repeat (first | apply Kd.R_alloc | apply Kd.R_drewN | apply Kd.R_drew)); exact HO_4.out⟩, ⟨by (try simp only [hl4_3]); (with_reducible repeat (first | apply Kd.R_alloc | apply Kd.R_drewN | apply Kd.R_drew)); exact HO_6.out⟩, ⟨by (try simp only [hl4_3]); (with_reducible repeat (first | refine blk_drewN ?_ _ | refine blk_drew ?_ | refine blk_alloc ?_ _)); exact BK50.out⟩, ⟨B_ HB.out⟩⟩
      ·rw [if_neg c18] at H
       have c18b0 : decide (x7_2 < (x4_2.length : Int)) = false := decide_eq_false c18
       clear c18
       obtain rfl := Option.some.inj H
       obtain ⟨Ao45, co45, eo45⟩ := Kd.R_slice HO_4.out
       subst eo45
       go_wp2
       go_ret
       exact ⟨_, F_, by (with_reducible repeat (first | apply Kd.R_alloc | apply Kd.R_drewN | apply Kd.R_drew)); exact Kd.R_mono HO_4.out (fun _ hk => trivial), B_ HB.out⟩
end Go.Proofs.Ytipkciildhghiaa.B
