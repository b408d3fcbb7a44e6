/- Printed proofs of functions of the program and of the reference, by a program of this work over the kit's printer. -/
import Derived.Test.YtmnplhkimpeocaaKEGFBIK0
import Derived.Test.YtmnplhkimpeocaaKFFJLHB0
import Derived.Test.YtmnplhkimpeocaaKLNJBHL0
import Derived.Test.YtmnplhkimpeocaaKW0
namespace Go.Proofs.Ytmnplhkimpeocaa.B
open Go.RowKit Go.Proofs.YtmnplhkimpeocaaW.PrintWords Go.Proofs.YtmnplhkimpeocaaW.PrintLast Go.Proofs.YtmnplhkimpeocaaW.PrintMore
attribute [local go_sem] max2_int min2_int max_two min_two max_three min_three max_four min_four
set_option linter.unusedVariables false
set_option linter.unusedSimpArgs false
def z12.j0 : Nat → Bool → Int → List (List Int) → Option (Bool)
 | 0, _, _, _ => none
 | k + 1, x30, x51000, x51001 => if x30 = true then (some false) else ((z25.f k x51000 x51001).bind fun t103 => ((z24.f k t103).bind fun bt106 => (if bt106.2 = true then ((z26.f k bt106.1 x51001).bind fun t110 => (some t110)) else (some false))))
def z12.f (k : Nat) (a0_0 : Int) (l0_1 : List (List Int)) : Option (Bool) := (z22.f a0_0 0 12).bind fun t101 => (if t101 = true then (if (l0_1.length : Int) > 30 then (z12.j0 k true a0_0 l0_1) else ((z23.f k a0_0 l0_1).bind fun t102 => (z12.j0 k (!t102) a0_0 l0_1))) else (z12.j0 k true a0_0 l0_1))
def z12.T1 : Bool × List (List Nat × List Nat) := (true, [([], []), ([0], [0]), ([1], [1]), ([2], [2]), ([3], [3]), ([4], [4]), ([5, 4], [5]), ([6], [6]), ([7, 6], [6, 7]), ([8, 6], [6, 8]), ([9, 6], [6, 9]), ([10, 6], [6, 10]), ([11, 6], [6, 11]), ([6, 12], [6, 12]), ([13, 6], [13]), ([14], [14]), ([15, 14], [14, 15]), ([16, 14], [14, 16]), ([17, 14], [14, 17]), ([14], [14]), ([19, 14], [14, 19]), ([20, 14], [14, 20]), ([21, 14], [14, 21]), ([18, 22, 14, 14], [14, 18, 22]), ([23, 14], [14, 23]), ([14, 24], [14, 24])])
def z12.B1 : List Nat := [0, 1, 3, 7, 15, 31, 63, 127, 255, 511, 1023, 2047, 4095, 8191, 16383, 32767, 65535, 131071, 262143, 32767, 557055, 1605631, 3702783, 8388607, 16777215, 33554431]
theorem z12.tab1 : rtab .any (opsOf Try.f12 1) = z12.T1 := by kernel_rfl
theorem z12.bits1 : waitsOk z12.T1.2 z12.B1 = true := by kernel_rfl
def z12.T3 : Bool × List (List Nat × List Nat) := (true, [([], []), ([0], [0]), ([1], [1]), ([2], [2]), ([], []), ([4], [4]), ([5], [5]), ([6], [6]), ([3, 7], [3, 7]), ([8, 8], [8]), ([9], [9]), ([10], [10]), ([10], [10]), ([11, 9, 0, 1, 2, 3, 4, 5, 6, 7, 8, 9, 10, 11], [11]), ([12, 13, 0, 1, 2, 3, 4, 5, 6, 7, 8, 9, 10, 11, 12, 13], [12])])
def z12.B3 : List Nat := [0, 1, 3, 7, 0, 16, 48, 112, 255, 511, 1023, 2047, 2047, 4095, 16383]
theorem z12.tab3 : rtab .any (opsOf Try.f12 3) = z12.T3 := by kernel_rfl
theorem z12.bits3 : waitsOk z12.T3.2 z12.B3 = true := by kernel_rfl
set_option maxHeartbeats 8000000 in
set_option maxRecDepth 100000 in
theorem z12.calls (k : Nat) (gp0 : Nat) (a0_0 : Int) (A0_1 : Option Addr) (c0_1 : Nat) (l0_1 : List (List Int)) (r : Bool) (w : World) (hbp0 : w.heap[gp0]? = some (.cells #[.int .i64 a0_0, .slice A0_1 l0_1.length c0_1] 26 (0, 0))) (hr0_1 : Kd.C (Kd.slice 2 (Kd.int .i64)) w A0_1 l0_1.length l0_1) (hc0_1 : l0_1.length ≤ c0_1) (h : z12.f k a0_0 l0_1 = some r) :
  Calls Try.prog 12 #[.pointer (some ⟨gp0, 0, none⟩)] w fun e w' => e = .returned (.bool r) ∧ Below w.heap.size w w' := by
 have HR0_1 := Aside0.mk hr0_1
 have HC0_1 := Aside0.mk hc0_1
 clear hr0_1 hc0_1
 have BK50 := Aside0.mk hbp0
 clear hbp0
 have HB := Aside0.mk (Below.refl w.heap.size w)
 have H : ((z22.f a0_0 0 12).bind fun t101 => (if t101 = true then (if (l0_1.length : Int) > 30 then (z12.j0 k true a0_0 l0_1) else ((z23.f k a0_0 l0_1).bind fun t102 => (z12.j0 k (!t102) a0_0 l0_1))) else (z12.j0 k true a0_0 l0_1))) = some r := h
 clear h
 have HC2 := Aside0.mk H
 clear H
 go_enter Try.func12, Try.ntmps12
 go_upto_region 1 with (fail)
 go_cut [30] (fun v30 wc => ∃ (kq : Nat) (x30_1 : Bool), v30 = .bool x30_1 ∧ Aside0 (z12.j0 kq x30_1 a0_0 l0_1 = some r) ∧ Aside0 (kq ≤ k) ∧ Aside0 (wc.heap[gp0]? = some (.cells #[.int .i64 a0_0, (.slice A0_1 l0_1.length c0_1)] 26 (0, 0))) ∧ Aside0 (Below w.heap.size w wc))
 case first =>
  have H := HC2.out
  clear HC2
  replace H := Option.bind_eq_some_iff.mp H
  obtain ⟨t101, A30, H⟩ := H
  have A3 := Aside0.mk A30
  clear A30
  by_cases c4 : t101 = true
  ·subst c4
   replace H := T_ H
   by_cases c5 : (l0_1.length : Int) > 30
   ·rw [if_pos c5] at H
    have c5b0 : decide (30 < (l0_1.length : Int)) = true := decide_eq_true c5
    have c5b1 : decide (30 < l0_1.length) = true := decide_eq_true (by omega)
    clear c5
    (first | rw [c5b0] | (simp only [i64_w, i32_w]; rw [c5b0]) | skip)
    have H' := Aside0.mk H
    clear H
    try go_wp2
    replace BK50 := Aside0.mk (blk_drew BK50.out)
    replace HB := Aside0.mk (below_drew1 HB.out)
    refine start_ (n := 26) (S := fun w' => w'.cell? ⟨gp0, 0, none⟩ = some (.int .i64 a0_0) ∧ w'.cell? ⟨gp0, 1, none⟩ = some (.slice A0_1 l0_1.length c0_1)) (ds := []) (tb_ 26 0) (by kernel_rfl) rfl rfl ⟨(blk_cell BK50.out 0).trans rfl, (blk_cell BK50.out 1).trans rfl⟩ (fun hHeld => ?_); refine with_tabW z12.tab1 z12.bits1 (fun HT_ HW_ => ?_)
    generalize w.drew = w6 at BK50 HB hHeld ⊢
    refine PV_ (i := 0) (N := some 5) (tb_ 26 1) HT_ rfl rfl (h := ?_)
    refine PV_ (i := 1) (N := some 6) (tb_ 26 3) HT_ rfl rfl (h := ?_)
    refine PV_ (i := 2) (N := some 7) (tb_ 26 7) HT_ rfl rfl (h := ?_)
    refine TV_ (i := 3) (N := some 8) (tb_ 26 15) HT_ HW_ rfl rfl hHeld (by rintro w' ⟨s0, s1⟩; go_simp; with_reducible rfl) (h := ?_)
    refine one_ (i := 4) (N := some 9) (tb_ 26 31) rfl rfl (one_of HT_.out (by kernel_rfl)) (by decide) (fun K hK => ?_)
    refine GO_ Try.func22 #[.int .i64 a0_0, .int .i64 0, .int .i64 12] (h := ?_)
    with_reducible refine (z22.calls a0_0 0 12 true _ A3.out).mono ?_
    rintro e w' ⟨rfl, ⟨nd, rfl⟩⟩
    refine ⟨_, rfl, ?_⟩
    refine hK.out _ _ ⟨(blk_cell BK50.out 0).trans rfl, (blk_cell BK50.out 1).trans rfl⟩ (fun hHeld => ?_)
    clear hK K
    refine NM_ (N := (some 9)) (h := ?_)
    refine PV_ (i := 5) (N := some 10) (tb_ 26 63) HT_ rfl rfl (h := ?_)
    refine PV_ (i := 6) (N := some 11) (tb_ 26 127) HT_ rfl rfl (h := ?_)
    refine PV_ (i := 7) (N := some 12) (tb_ 26 255) HT_ rfl rfl (h := ?_)
    refine PV_ (i := 8) (N := some 13) (tb_ 26 511) HT_ rfl rfl (h := ?_)
    refine PV_ (i := 9) (N := some 14) (tb_ 26 1023) HT_ rfl rfl (h := ?_)
    refine TV_ (i := 10) (N := some 15) (tb_ 26 2047) HT_ HW_ rfl rfl hHeld (by rintro w' ⟨s0, s1⟩; go_simp; with_reducible rfl) (h := ?_)
    refine PV_ (i := 11) (N := some 16) (tb_ 26 4095) HT_ rfl rfl (h := ?_)
    refine PV_ (i := 12) (N := some 17) (tb_ 26 8191) HT_ rfl rfl (h := ?_)
    refine PV_ (i := 13) (N := some 18) (tb_ 26 16383) HT_ rfl rfl (h := ?_)
    refine PV_ (i := 14) (N := some 19) (tb_ 26 32767) HT_ rfl rfl (h := ?_)
    refine PU_ (i := 15) (N := some 20) (tb_ 26 65535) HT_ rfl rfl (h := ?_)
    refine PU_ (i := 16) (N := some 21) (tb_ 26 131071) HT_ rfl rfl (h := ?_)
    refine PU_ (i := 17) (N := some 22) (tb_ 26 262143) HT_ rfl rfl (h := ?_)
    refine PU_ (i := 18) (N := some 23) (tb_ 26 524287) HT_ rfl rfl (h := ?_)
    refine PU_ (i := 19) (N := some 24) (tb_ 26 1048575) HT_ rfl rfl (h := ?_)
    refine PU_ (i := 20) (N := some 25) (tb_ 26 2097151) HT_ rfl rfl (h := ?_)
    refine PU_ (i := 21) (N := some 26) (tb_ 26 4194303) HT_ rfl rfl (h := ?_)
    refine PU_ (i := 22) (N := some 27) (tb_ 26 8388607) HT_ rfl rfl (h := ?_)
    refine PU_ (i := 23) (N := some 28) (tb_ 26 16777215) HT_ rfl rfl (h := ?_)
    refine PU_ (i := 24) (N := some 29) (tb_ 26 33554431) HT_ rfl rfl (h := ?_)
    refine PV_ (i := 25) (N := some 30) (tb_ 26 67108863) HT_ rfl rfl (h := ?_)
    refine done_ (done_of HT_.out (by kernel_rfl)) ?_
    try go_wp2
    go_meet
    case rel => exact ⟨_, (true), E_, H', ⟨by first | omega | exact Nat.le_refl _⟩, ⟨KB_ BK50.out⟩, ⟨B_ HB.out⟩⟩
   ·rw [if_neg c5] at H
    have c5b0 : decide (30 < (l0_1.length : Int)) = false := decide_eq_false c5
    have c5b1 : decide (30 < l0_1.length) = false := decide_eq_false (by omega)
    clear c5
    (first | rw [c5b0] | (simp only [i64_w, i32_w]; rw [c5b0]) | skip)
    replace H := Option.bind_eq_some_iff.mp H
    obtain ⟨t102, A70, H⟩ := H
    have A7 := Aside0.mk A70
    clear A70
    have H' := Aside0.mk H
    clear H
    try go_wp2
    replace BK50 := Aside0.mk (blk_drew BK50.out)
    replace HB := Aside0.mk (below_drew1 HB.out)
    refine start_ (n := 26) (S := fun w' => w'.cell? ⟨gp0, 0, none⟩ = some (.int .i64 a0_0) ∧ w'.cell? ⟨gp0, 1, none⟩ = some (.slice A0_1 l0_1.length c0_1)) (ds := []) (tb_ 26 0) (by kernel_rfl) rfl rfl ⟨(blk_cell BK50.out 0).trans rfl, (blk_cell BK50.out 1).trans rfl⟩ (fun hHeld => ?_); refine with_tabW z12.tab1 z12.bits1 (fun HT_ HW_ => ?_)
    generalize w.drew = w8 at BK50 HB hHeld ⊢
    refine PV_ (i := 0) (N := some 5) (tb_ 26 1) HT_ rfl rfl (h := ?_)
    refine PV_ (i := 1) (N := some 6) (tb_ 26 3) HT_ rfl rfl (h := ?_)
    refine PV_ (i := 2) (N := some 7) (tb_ 26 7) HT_ rfl rfl (h := ?_)
    refine TV_ (i := 3) (N := some 8) (tb_ 26 15) HT_ HW_ rfl rfl hHeld (by rintro w' ⟨s0, s1⟩; go_simp; with_reducible rfl) (h := ?_)
    refine one_ (i := 4) (N := some 9) (tb_ 26 31) rfl rfl (one_of HT_.out (by kernel_rfl)) (by decide) (fun K hK => ?_)
    refine GO_ Try.func22 #[.int .i64 a0_0, .int .i64 0, .int .i64 12] (h := ?_)
    with_reducible refine (z22.calls a0_0 0 12 true _ A3.out).mono ?_
    rintro e w' ⟨rfl, ⟨nd, rfl⟩⟩
    refine ⟨_, rfl, ?_⟩
    refine hK.out _ _ ⟨(blk_cell BK50.out 0).trans rfl, (blk_cell BK50.out 1).trans rfl⟩ (fun hHeld => ?_)
    clear hK K
    refine NM_ (N := (some 9)) (h := ?_)
    refine PV_ (i := 5) (N := some 10) (tb_ 26 63) HT_ rfl rfl (h := ?_)
    refine PV_ (i := 6) (N := some 11) (tb_ 26 127) HT_ rfl rfl (h := ?_)
    refine PV_ (i := 7) (N := some 12) (tb_ 26 255) HT_ rfl rfl (h := ?_)
    refine PV_ (i := 8) (N := some 13) (tb_ 26 511) HT_ rfl rfl (h := ?_)
    refine PV_ (i := 9) (N := some 14) (tb_ 26 1023) HT_ rfl rfl (h := ?_)
    refine TV_ (i := 10) (N := some 15) (tb_ 26 2047) HT_ HW_ rfl rfl hHeld (by rintro w' ⟨s0, s1⟩; go_simp; with_reducible rfl) (h := ?_)
    refine PV_ (i := 11) (N := some 16) (tb_ 26 4095) HT_ rfl rfl (h := ?_)
    refine PV_ (i := 12) (N := some 17) (tb_ 26 8191) HT_ rfl rfl (h := ?_)
    refine PV_ (i := 13) (N := some 18) (tb_ 26 16383) HT_ rfl rfl (h := ?_)
    refine PV_ (i := 14) (N := some 19) (tb_ 26 32767) HT_ rfl rfl (h := ?_)
    refine PV_ (i := 15) (N := some 20) (tb_ 26 65535) HT_ rfl rfl (h := ?_)
    refine PV_ (i := 16) (N := some 21) (tb_ 26 131071) HT_ rfl rfl (h := ?_)
    refine PV_ (i := 17) (N := some 22) (tb_ 26 262143) HT_ rfl rfl (h := ?_)
    refine PV_ (i := 19) (N := some 24) (tb_ 26 786431) HT_ rfl rfl (h := ?_)
    refine PV_ (i := 20) (N := some 25) (tb_ 26 1835007) HT_ rfl rfl (h := ?_)
    refine PV_ (i := 21) (N := some 26) (tb_ 26 3932159) HT_ rfl rfl (h := ?_)
    refine TV_ (i := 18) (N := some 23) (tb_ 26 4194303) HT_ HW_ rfl rfl hHeld (by rintro w' ⟨s0, s1⟩; go_simp; with_reducible rfl) (h := ?_)
    refine TV_ (i := 22) (N := some 27) (tb_ 26 8388607) HT_ HW_ rfl rfl hHeld (by rintro w' ⟨s0, s1⟩; go_simp; with_reducible rfl) (h := ?_)
    refine one_ (i := 23) (N := some 28) (tb_ 26 16777215) rfl rfl (one_of HT_.out (by kernel_rfl)) (by decide) (fun K hK => ?_)
    refine GO_ Try.func23 #[.int .i64 a0_0, .slice A0_1 l0_1.length c0_1] (h := ?_)
    with_reducible refine (z23.calls k a0_0 _ _ l0_1 t102 _ ?side1 ?side2 A7.out).mono ?_
    (case side1 => repeat (first | exact (Kd.C_below HR0_1.out (B_ HB.out)) | (with_reducible refine Kd.C_alloc ?_ _) | (with_reducible refine Kd.C_drewN ?_ _) | (with_reducible refine Kd.C_drew ?_)))
    (case side2 => exact HC0_1.out)
    rintro e w' ⟨rfl, ⟨nd, rfl⟩⟩
    refine ⟨_, rfl, ?_⟩
    refine hK.out _ _ ⟨(blk_cell BK50.out 0).trans rfl, (blk_cell BK50.out 1).trans rfl⟩ (fun hHeld => ?_)
    clear hK K
    refine NM_ (N := (some 28)) (h := ?_)
    refine PV_ (i := 24) (N := some 29) (tb_ 26 33554431) HT_ rfl rfl (h := ?_)
    refine PV_ (i := 25) (N := some 30) (tb_ 26 67108863) HT_ rfl rfl (h := ?_)
    refine done_ (done_of HT_.out (by kernel_rfl)) ?_
    try go_wp2
    go_meet
    case rel => exact ⟨_, (!t102), E_, H', ⟨by first | omega | exact Nat.le_refl _⟩, ⟨KB_ BK50.out⟩, ⟨B_ HB.out⟩⟩
  ·replace c4 := Bool.eq_false_iff.mpr c4
   subst c4
   replace H := N_ H
   have H' := Aside0.mk H
   clear H
   try go_wp2
   replace BK50 := Aside0.mk (blk_drew BK50.out)
   replace HB := Aside0.mk (below_drew1 HB.out)
   refine start_ (n := 26) (S := fun w' => w'.cell? ⟨gp0, 0, none⟩ = some (.int .i64 a0_0) ∧ w'.cell? ⟨gp0, 1, none⟩ = some (.slice A0_1 l0_1.length c0_1)) (ds := []) (tb_ 26 0) (by kernel_rfl) rfl rfl ⟨(blk_cell BK50.out 0).trans rfl, (blk_cell BK50.out 1).trans rfl⟩ (fun hHeld => ?_); refine with_tabW z12.tab1 z12.bits1 (fun HT_ HW_ => ?_)
   generalize w.drew = w9 at BK50 HB hHeld ⊢
   refine PV_ (i := 0) (N := some 5) (tb_ 26 1) HT_ rfl rfl (h := ?_)
   refine PV_ (i := 1) (N := some 6) (tb_ 26 3) HT_ rfl rfl (h := ?_)
   refine PV_ (i := 2) (N := some 7) (tb_ 26 7) HT_ rfl rfl (h := ?_)
   refine TV_ (i := 3) (N := some 8) (tb_ 26 15) HT_ HW_ rfl rfl hHeld (by rintro w' ⟨s0, s1⟩; go_simp; with_reducible rfl) (h := ?_)
   refine one_ (i := 4) (N := some 9) (tb_ 26 31) rfl rfl (one_of HT_.out (by kernel_rfl)) (by decide) (fun K hK => ?_)
   refine GO_ Try.func22 #[.int .i64 a0_0, .int .i64 0, .int .i64 12] (h := ?_)
   with_reducible refine (z22.calls a0_0 0 12 false _ A3.out).mono ?_
   rintro e w' ⟨rfl, ⟨nd, rfl⟩⟩
   refine ⟨_, rfl, ?_⟩
   refine hK.out _ _ ⟨(blk_cell BK50.out 0).trans rfl, (blk_cell BK50.out 1).trans rfl⟩ (fun hHeld => ?_)
   clear hK K
   refine NM_ (N := (some 9)) (h := ?_)
   refine PV_ (i := 5) (N := some 10) (tb_ 26 63) HT_ rfl rfl (h := ?_)
   refine PV_ (i := 6) (N := some 11) (tb_ 26 127) HT_ rfl rfl (h := ?_)
   refine PU_ (i := 7) (N := some 12) (tb_ 26 255) HT_ rfl rfl (h := ?_)
   refine PU_ (i := 8) (N := some 13) (tb_ 26 511) HT_ rfl rfl (h := ?_)
   refine PU_ (i := 9) (N := some 14) (tb_ 26 1023) HT_ rfl rfl (h := ?_)
   refine PU_ (i := 10) (N := some 15) (tb_ 26 2047) HT_ rfl rfl (h := ?_)
   refine PU_ (i := 11) (N := some 16) (tb_ 26 4095) HT_ rfl rfl (h := ?_)
   refine PU_ (i := 12) (N := some 17) (tb_ 26 8191) HT_ rfl rfl (h := ?_)
   refine PV_ (i := 13) (N := some 18) (tb_ 26 16383) HT_ rfl rfl (h := ?_)
   refine PV_ (i := 14) (N := some 19) (tb_ 26 32767) HT_ rfl rfl (h := ?_)
   refine PU_ (i := 15) (N := some 20) (tb_ 26 65535) HT_ rfl rfl (h := ?_)
   refine PU_ (i := 16) (N := some 21) (tb_ 26 131071) HT_ rfl rfl (h := ?_)
   refine PU_ (i := 17) (N := some 22) (tb_ 26 262143) HT_ rfl rfl (h := ?_)
   refine PU_ (i := 18) (N := some 23) (tb_ 26 524287) HT_ rfl rfl (h := ?_)
   refine PU_ (i := 19) (N := some 24) (tb_ 26 1048575) HT_ rfl rfl (h := ?_)
   refine PU_ (i := 20) (N := some 25) (tb_ 26 2097151) HT_ rfl rfl (h := ?_)
   refine PU_ (i := 21) (N := some 26) (tb_ 26 4194303) HT_ rfl rfl (h := ?_)
   refine PU_ (i := 22) (N := some 27) (tb_ 26 8388607) HT_ rfl rfl (h := ?_)
   refine PU_ (i := 23) (N := some 28) (tb_ 26 16777215) HT_ rfl rfl (h := ?_)
   refine PU_ (i := 24) (N := some 29) (tb_ 26 33554431) HT_ rfl rfl (h := ?_)
   refine PV_ (i := 25) (N := some 30) (tb_ 26 67108863) HT_ rfl rfl (h := ?_)
   refine done_ (done_of HT_.out (by kernel_rfl)) ?_
   try go_wp2
   go_meet
   case rel => exact ⟨_, (true), E_, H', ⟨by first | omega | exact Nat.le_refl _⟩, ⟨KB_ BK50.out⟩, ⟨B_ HB.out⟩⟩
 case rest =>
  clear HC2
  (try clear c2);(try clear p2);(try clear c4);(try clear c5);(try clear c5b0);(try clear c5b1)
  obtain ⟨kq, x30_1, rfl, HA, HJ1, BK50, HB⟩ := hcut
  cases kq with
  | zero => exact absurd HA.out (by simp [z12.j0])
  | succ kj1 =>
   have H := HA.out
   clear HA
   simp only [z12.j0] at H
   by_cases c10 : x30_1 = true
   ·subst c10
    replace H := T_ H
    obtain rfl := Option.some.inj H
    go_wp2
    go_ret
    exact ⟨F_, B_ HB.out⟩
   ·replace c10 := Bool.eq_false_iff.mpr c10
    subst c10
    replace H := N_ H
    replace H := Option.bind_eq_some_iff.mp H
    obtain ⟨t103, A110, H⟩ := H
    have A11 := Aside0.mk A110
    clear A110
    replace H := Option.bind_eq_some_iff.mp H
    obtain ⟨⟨t106, t107⟩, A120, H⟩ := H
    try dsimp only at H
    have A12 := Aside0.mk A120
    clear A120
    by_cases c13 : t107 = true
    ·subst c13
     replace H := T_ H
     replace H := Option.bind_eq_some_iff.mp H
     obtain ⟨t110, A140, H⟩ := H
     have A14 := Aside0.mk A140
     clear A140
     obtain rfl := Option.some.inj H
     try go_wp2
     replace BK50 := Aside0.mk (blk_drew BK50.out)
     replace HB := Aside0.mk (below_drew1 HB.out)
     refine start_ (n := 15) (S := fun w' => w'.cell? ⟨gp0, 0, none⟩ = some (.int .i64 a0_0) ∧ w'.cell? ⟨gp0, 1, none⟩ = some (.slice A0_1 l0_1.length c0_1)) (ds := []) (tb_ 15 0) (by kernel_rfl) rfl rfl ⟨(blk_cell BK50.out 0).trans rfl, (blk_cell BK50.out 1).trans rfl⟩ (fun hHeld => ?_); refine with_tabW z12.tab3 z12.bits3 (fun HT_ HW_ => ?_)
     generalize wc.drew = w15 at BK50 HB hHeld ⊢
     refine PV_ (i := 0) (N := some 32) (tb_ 15 1) HT_ rfl rfl (h := ?_)
     refine PV_ (i := 1) (N := some 33) (tb_ 15 3) HT_ rfl rfl (h := ?_)
     refine PV_ (i := 2) (N := some 34) (tb_ 15 7) HT_ rfl rfl (h := ?_)
     refine PV_ (i := 4) (N := some 36) (tb_ 15 23) HT_ rfl rfl (h := ?_)
     refine PV_ (i := 5) (N := some 37) (tb_ 15 55) HT_ rfl rfl (h := ?_)
     refine PV_ (i := 6) (N := some 38) (tb_ 15 119) HT_ rfl rfl (h := ?_)
     refine TV_ (i := 3) (N := some 35) (tb_ 15 127) HT_ HW_ rfl rfl hHeld (by rintro w' ⟨s0, s1⟩; go_simp; with_reducible rfl) (h := ?_)
     refine TV_ (i := 7) (N := some 39) (tb_ 15 255) HT_ HW_ rfl rfl hHeld (by rintro w' ⟨s0, s1⟩; go_simp; with_reducible rfl) (h := ?_)
     refine one_ (i := 8) (N := some 40) (tb_ 15 511) rfl rfl (one_of HT_.out (by kernel_rfl)) (by decide) (fun K hK => ?_)
     refine GO_ Try.func25 #[.int .i64 a0_0, .slice A0_1 l0_1.length c0_1] (h := ?_)
     with_reducible refine (z25.calls kj1 a0_0 _ _ l0_1 t103 _ ?side1 ?side2 A11.out).mono ?_
     (case side1 => exact KC_ (Kd.C_below HR0_1.out HB.out))
     (case side2 => exact HC0_1.out)
     rintro e w16 ⟨v104, rfl, ho0, hb⟩
     refine ⟨_, rfl, ?_⟩
     have HO105 := Aside0.mk (Kd.S_lower ho0 (below_size (B_ HB.out)))
     replace BK50 := Aside0.mk (blk_below (g := gp0) (o := .cells #[.int .i64 a0_0, .slice A0_1 l0_1.length c0_1] 26 (0, 0)) (KB_ BK50.out) hb)
     replace HB := Aside0.mk (below_step (B_ HB.out) hb)
     (try clear hb);(try clear hb2);(try clear hk);(try clear hi);(try clear ho0)
     obtain ⟨Ao17, co17, eo17⟩ := Kd.S_slice HO105.out
     (first | subst eo17 | (injection eo17 with f1_ f2_ f3_; have f4_ := f1_.symm; have f5_ := f3_.symm; clear f1_ f2_ f3_; subst f4_; subst f5_))
     refine hK.out _ _ ⟨(blk_cell BK50.out 0).trans rfl, (blk_cell BK50.out 1).trans rfl⟩ (fun hHeld => ?_)
     clear hK K
     refine NM_ (N := (some 40)) (h := ?_)
     refine one_ (i := 9) (N := some 41) (tb_ 15 1023) rfl rfl (one_of HT_.out (by kernel_rfl)) (by decide) (fun K hK => ?_)
     refine GO_ Try.func24 #[.slice Ao17 t103.length co17] (h := ?_)
     with_reducible refine (z24.calls kj1 _ _ t103 t106 true _ ?side1 ?side2 A12.out).mono ?_
     (case side1 => exact KC_ (Kd.S_reads' HO105.out).2.2)
     (case side2 => exact (Kd.S_reads' HO105.out).2.1)
     rintro e w18 ⟨v108, rfl, ho0, hb⟩
     refine ⟨_, rfl, ?_⟩
     replace HO105 := Aside0.mk (Kd.S_below (KS_ HO105.out) hb)
     have HO109 := Aside0.mk (Kd.S_lower ho0 (below_size (B_ HB.out)))
     replace BK50 := Aside0.mk (blk_below (g := gp0) (o := .cells #[.int .i64 a0_0, .slice A0_1 l0_1.length c0_1] 26 (0, 0)) (KB_ BK50.out) hb)
     replace HB := Aside0.mk (below_step (B_ HB.out) hb)
     (try clear hb);(try clear hb2);(try clear hk);(try clear hi);(try clear ho0)
     refine hK.out _ _ ⟨(blk_cell BK50.out 0).trans rfl, (blk_cell BK50.out 1).trans rfl⟩ (fun hHeld => ?_)
     clear hK K
     refine NM_ (N := (some 41)) (h := ?_)
     refine PV_ (i := 10) (N := some 31) (tb_ 15 2047) HT_ rfl rfl (h := ?_)
     refine PV_ (i := 11) (N := some 42) (tb_ 15 4095) HT_ rfl rfl (h := ?_)
     refine PV_ (i := 12) (N := some 43) (tb_ 15 8191) HT_ rfl rfl (h := ?_)
     refine PV_ (i := 13) (N := some 3) (tb_ 15 16383) HT_ rfl rfl (h := ?_)
     refine PV_ (i := 14) (N := some 4) (tb_ 15 32767) HT_ rfl rfl (h := ?_)
     refine done_ (done_of HT_.out (by kernel_rfl)) ?_
     have hcz19_0 : w18.cell? ⟨gp0, 0, none⟩ = some (.int .i64 a0_0) := (blk_cell BK50.out 0).trans rfl
     have hcz19_1 : w18.cell? ⟨gp0, 1, none⟩ = some (.slice A0_1 l0_1.length c0_1) := (blk_cell BK50.out 1).trans rfl
     have hfz19_0 := blk_frozen BK50.out 0
     have hfz19_1 := blk_frozen BK50.out 1
     obtain ⟨Ao20, co20, eo20⟩ := Kd.S_slice HO109.out
     subst eo20
     try go_wp2_with (first | (go_at_call 26; (with_reducible refine (z26.calls kj1 _ _ t106 _ _ l0_1 t110 _ ?side1 ?side2 ?side3 ?side4 A14.out).mono ?_); (case side1 => exact KC_ (Kd.S_reads' HO109.out).2.2); (case side2 => exact (Kd.S_reads' HO109.out).2.1); (case side3 => exact KC_ (Kd.C_below HR0_1.out HB.out)); (case side4 => exact HC0_1.out); rintro e w' ⟨rfl, ⟨nd, rfl⟩⟩))
     go_ret
     exact ⟨F_, B_ HB.out⟩
    ·replace c13 := Bool.eq_false_iff.mpr c13
     subst c13
     replace H := N_ H
     obtain rfl := Option.some.inj H
     try go_wp2
     replace BK50 := Aside0.mk (blk_drew BK50.out)
     replace HB := Aside0.mk (below_drew1 HB.out)
     refine start_ (n := 15) (S := fun w' => w'.cell? ⟨gp0, 0, none⟩ = some (.int .i64 a0_0) ∧ w'.cell? ⟨gp0, 1, none⟩ = some (.slice A0_1 l0_1.length c0_1)) (ds := []) (tb_ 15 0) (by kernel_rfl) rfl rfl ⟨(blk_cell BK50.out 0).trans rfl, (blk_cell BK50.out 1).trans rfl⟩ (fun hHeld => ?_); refine with_tabW z12.tab3 z12.bits3 (fun HT_ HW_ => ?_)
     generalize wc.drew = w21 at BK50 HB hHeld ⊢
     refine PV_ (i := 0) (N := some 32) (tb_ 15 1) HT_ rfl rfl (h := ?_)
     refine PV_ (i := 1) (N := some 33) (tb_ 15 3) HT_ rfl rfl (h := ?_)
     refine PV_ (i := 2) (N := some 34) (tb_ 15 7) HT_ rfl rfl (h := ?_)
     refine PV_ (i := 4) (N := some 36) (tb_ 15 23) HT_ rfl rfl (h := ?_)
     refine PV_ (i := 5) (N := some 37) (tb_ 15 55) HT_ rfl rfl (h := ?_)
     refine PV_ (i := 6) (N := some 38) (tb_ 15 119) HT_ rfl rfl (h := ?_)
     refine TV_ (i := 3) (N := some 35) (tb_ 15 127) HT_ HW_ rfl rfl hHeld (by rintro w' ⟨s0, s1⟩; go_simp; with_reducible rfl) (h := ?_)
     refine TV_ (i := 7) (N := some 39) (tb_ 15 255) HT_ HW_ rfl rfl hHeld (by rintro w' ⟨s0, s1⟩; go_simp; with_reducible rfl) (h := ?_)
     refine one_ (i := 8) (N := some 40) (tb_ 15 511) rfl rfl (one_of HT_.out (by kernel_rfl)) (by decide) (fun K hK => ?_)
     refine GO_ Try.func25 #[.int .i64 a0_0, .slice A0_1 l0_1.length c0_1] (h := ?_)
     with_reducible refine (z25.calls kj1 a0_0 _ _ l0_1 t103 _ ?side1 ?side2 A11.out).mono ?_
     (case side1 => exact KC_ (Kd.C_below HR0_1.out HB.out))
     (case side2 => exact HC0_1.out)
     rintro e w22 ⟨v104, rfl, ho0, hb⟩
     refine ⟨_, rfl, ?_⟩
     have HO105 := Aside0.mk (Kd.S_lower ho0 (below_size (B_ HB.out)))
     replace BK50 := Aside0.mk (blk_below (g := gp0) (o := .cells #[.int .i64 a0_0, .slice A0_1 l0_1.length c0_1] 26 (0, 0)) (KB_ BK50.out) hb)
     replace HB := Aside0.mk (below_step (B_ HB.out) hb)
     (try clear hb);(try clear hb2);(try clear hk);(try clear hi);(try clear ho0)
     obtain ⟨Ao23, co23, eo23⟩ := Kd.S_slice HO105.out
     (first | subst eo23 | (injection eo23 with f1_ f2_ f3_; have f4_ := f1_.symm; have f5_ := f3_.symm; clear f1_ f2_ f3_; subst f4_; subst f5_))
     refine hK.out _ _ ⟨(blk_cell BK50.out 0).trans rfl, (blk_cell BK50.out 1).trans rfl⟩ (fun hHeld => ?_)
     clear hK K
     refine NM_ (N := (some 40)) (h := ?_)
     refine one_ (i := 9) (N := some 41) (tb_ 15 1023) rfl rfl (one_of HT_.out (by kernel_rfl)) (by decide) (fun K hK => ?_)
     refine GO_ Try.func24 #[.slice Ao23 t103.length co23] (h := ?_)
     with_reducible refine (z24.calls kj1 _ _ t103 t106 false _ ?side1 ?side2 A12.out).mono ?_
     (case side1 => exact KC_ (Kd.S_reads' HO105.out).2.2)
     (case side2 => exact (Kd.S_reads' HO105.out).2.1)
     rintro e w24 ⟨v108, rfl, ho0, hb⟩
     refine ⟨_, rfl, ?_⟩
     replace HO105 := Aside0.mk (Kd.S_below (KS_ HO105.out) hb)
     have HO109 := Aside0.mk (Kd.S_lower ho0 (below_size (B_ HB.out)))
     replace BK50 := Aside0.mk (blk_below (g := gp0) (o := .cells #[.int .i64 a0_0, .slice A0_1 l0_1.length c0_1] 26 (0, 0)) (KB_ BK50.out) hb)
     replace HB := Aside0.mk (below_step (B_ HB.out) hb)
     (try clear hb);(try clear hb2);(try clear hk);(try clear hi);(try clear ho0)
     refine hK.out _ _ ⟨(blk_cell BK50.out 0).trans rfl, (blk_cell BK50.out 1).trans rfl⟩ (fun hHeld => ?_)
     clear hK K
     refine NM_ (N := (some 41)) (h := ?_)
     refine PV_ (i := 10) (N := some 31) (tb_ 15 2047) HT_ rfl rfl (h := ?_)
     refine PV_ (i := 11) (N := some 42) (tb_ 15 4095) HT_ rfl rfl (h := ?_)
     refine PV_ (i := 12) (N := some 43) (tb_ 15 8191) HT_ rfl rfl (h := ?_)
     refine PV_ (i := 13) (N := some 3) (tb_ 15 16383) HT_ rfl rfl (h := ?_)
     refine PV_ (i := 14) (N := some 4) (tb_ 15 32767) HT_ rfl rfl (h := ?_)
     refine done_ (done_of HT_.out (by kernel_rfl)) ?_
     try go_wp2
     go_ret
     exact ⟨F_, B_ HB.out⟩
end Go.Proofs.Ytmnplhkimpeocaa.B
