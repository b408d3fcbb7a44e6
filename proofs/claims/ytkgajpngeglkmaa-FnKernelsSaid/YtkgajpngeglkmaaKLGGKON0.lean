/- Printed proofs of functions of the program and of the reference, by a program of this work over the kit's printer. -/
import Derived.Test.YtkgajpngeglkmaaKLBBOAD0
import Derived.Test.YtkgajpngeglkmaaKW0
namespace Go.Proofs.Ytkgajpngeglkmaa.B
open Go.RowKit Go.Proofs.YtkgajpngeglkmaaW.PrintWords Go.Proofs.YtkgajpngeglkmaaW.PrintLast Go.Proofs.YtkgajpngeglkmaaW.PrintMore
attribute [local go_sem] qAr qAp qAv qAu qAm qAl qAq qAo
set_option linter.unusedVariables false
set_option linter.unusedSimpArgs false
def z79.f (k : Nat) (a0_0 : Int) (a0_1 : Int) (a0_2 : Int) (l0_3 : List Int) : Option (Bool) := (z73.f k a0_0).bind fun t102 => (if t102 = true then ((z74.f a0_1).bind fun t103 => (if t103 = true then ((z74.f a0_2).bind fun t104 => (if t104 = true then ((z106.f l0_3).bind fun t105 => (if t105 = (wrap64 (a0_1 * a0_2)) then ((z107.f k l0_3 a0_0).bind fun t106 => (some t106)) else (some false))) else (some false))) else (some false))) else (some false))
def z79.T1 : Bool × List (List Nat × List Nat) := (true, [([], []), ([0], [0]), ([1], [1]), ([2, 2], [2]), ([3], [3]), ([4, 3], [3, 4]), ([5, 3, 3], [3, 5]), ([3, 6], [3, 6]), ([7, 6], [7]), ([8], [8]), ([9, 8], [8, 9]), ([10, 8, 8], [8, 10]), ([8, 11], [8, 11]), ([12, 11], [12]), ([13], [13]), ([14, 13], [13, 14]), ([15, 13, 13], [13, 15]), ([13], [13]), ([17, 13], [13, 17]), ([13], [13]), ([19, 13], [13, 19]), ([18, 20, 13], [13, 18, 20]), ([16, 21, 13], [13, 16, 21]), ([13, 22], [13, 22]), ([23, 16], [23]), ([24], [24]), ([25, 24], [24, 25]), ([24], [24]), ([27, 24], [24, 27]), ([26, 28, 24, 24], [24, 26, 28]), ([24, 29], [24, 29]), ([30, 29, 0, 1, 2, 3, 4, 5, 6, 7, 8, 9, 10, 11, 12, 13, 14, 15, 16, 17, 18, 19, 20, 21, 22, 23, 24, 25, 26, 27, 28, 29, 30], [30])])
def z79.B1 : List Nat := [0, 1, 3, 7, 15, 31, 63, 127, 255, 511, 1023, 2047, 4095, 8191, 16383, 32767, 65535, 16383, 147455, 16383, 540671, 1982463, 4194303, 8388607, 16777215, 33554431, 67108863, 33554431, 167772159, 536870911, 1073741823, 2147483647]
theorem z79.tab1 : rtab .any (qCc Try.f79 1) = z79.T1 := by kernel_rfl
theorem z79.bits1 : qBa z79.T1.2 z79.B1 = true := by kernel_rfl
set_option maxHeartbeats 8000000 in
set_option maxRecDepth 100000 in
theorem z79.calls (k : Nat) (a0_0 : Int) (a0_1 : Int) (a0_2 : Int) (A0_3 : Option Addr) (c0_3 : Nat) (l0_3 : List Int) (r : Bool) (w : World) (hr0_3 : Kd.C (Kd.int .i64) w A0_3 l0_3.length l0_3) (hc0_3 : l0_3.length ≤ c0_3) (h : z79.f k a0_0 a0_1 a0_2 l0_3 = some r) :
  Calls Try.prog 79 #[.agg #[.int .i64 a0_0, .int .i64 a0_1, .int .i64 a0_2, .slice A0_3 l0_3.length c0_3]] w fun e w' => e = .returned (.bool r) ∧ Below w.heap.size w w' := by
 have hu55 := Try.underlying55
 have HR0_3 := Zz.mk hr0_3
 have HC0_3 := Zz.mk hc0_3
 clear hr0_3 hc0_3
 have HB := Zz.mk (Below.refl w.heap.size w)
 have H : ((z73.f k a0_0).bind fun t102 => (if t102 = true then ((z74.f a0_1).bind fun t103 => (if t103 = true then ((z74.f a0_2).bind fun t104 => (if t104 = true then ((z106.f l0_3).bind fun t105 => (if t105 = (wrap64 (a0_1 * a0_2)) then ((z107.f k l0_3 a0_0).bind fun t106 => (some t106)) else (some false))) else (some false))) else (some false))) else (some false))) = some r := h
 clear h
 replace H := OZ_ H
 obtain ⟨t102, A2, H⟩ := H
 by_cases c3 : t102 = true
 ·subst c3
  replace H := T_ H
  replace H := OZ_ H
  obtain ⟨t103, A4, H⟩ := H
  by_cases c5 : t103 = true
  ·subst c5
   replace H := T_ H
   replace H := OZ_ H
   obtain ⟨t104, A6, H⟩ := H
   by_cases c7 : t104 = true
   ·subst c7
    replace H := T_ H
    replace H := OZ_ H
    obtain ⟨t105, A8, H⟩ := H
    by_cases c9 : t105 = (wrap64 (a0_1 * a0_2))
    ·rw [if_pos c9] at H
     have c9b0 : (t105 == (wrap64 (a0_1 * a0_2))) = true := beq_iff_eq.mpr c9
     have c9b1 : (t105 != (wrap64 (a0_1 * a0_2))) = false := bne_eq_false_iff_eq.mpr c9
     clear c9
     replace H := OZ_ H
     obtain ⟨t106, A10, H⟩ := H
     obtain rfl := OI_ H
     go_enter Try.func79, Try.ntmps79
     try go_wp2_with (first | ((with_reducible refine qAn (N := 1) rfl ?_); refine bx_ 1 #[.int .i64 a0_0, .int .i64 a0_1, .int .i64 a0_2, .slice A0_3 l0_3.length c0_3] 55 ?_; intro gb101 hg w11 hbox hb; have BK101 := Zz.mk (hbox); have GW101 := Zz.mk ((gw_ hg (B_ HB.out))); have GE101 := GW101; replace HB := Zz.mk (bT_ (B_ HB.out) hb); clear hb hbox hg))
     replace BK101 := Zz.mk (bD_ BK101.out)
     replace HB := Zz.mk (qAe HB.out)
     refine qBd (n := 32) (S := fun w' => w'.cell? ⟨gb101, 0, none⟩ = some (.int .i64 a0_0) ∧ w'.cell? ⟨gb101, 1, none⟩ = some (.int .i64 a0_1) ∧ w'.cell? ⟨gb101, 2, none⟩ = some (.int .i64 a0_2) ∧ w'.cell? ⟨gb101, 3, none⟩ = some (.slice A0_3 l0_3.length c0_3)) (ds := []) (tb_ 32 0) (by kernel_rfl) rfl rfl (Z4_ BK101.out) (fun hHeld => ?_); refine qA1 z79.tab1 z79.bits1 (fun HT_ HW_ => ?_)
     generalize w11.drew = w12 at BK101 HB hHeld ⊢
     refine PX_ 0 3 (tb_ 32 1) HT_ rfl rfl ?_
     refine TV_ (i := 1) (N := some 4) (tb_ 32 3) HT_ HW_ rfl rfl hHeld (by rintro w' ⟨s0, s1, s2, s3⟩; go_simp; with_reducible rfl) (h := ?_)
     refine one_ (i := 2) (N := some 5) (tb_ 32 7) rfl rfl (qA0 HT_.out (by kernel_rfl)) (by decide) (fun K hK => ?_)
     refine GO_ Try.func73 #[.int .i64 a0_0] (h := ?_)
     with_reducible refine (z73.calls k a0_0 true _ A2.out).mono ?_
     rintro e w' ⟨rfl, ⟨nd, rfl⟩⟩
     refine ⟨_, rfl, ?_⟩
     refine hK.out _ _ (Z4_ BK101.out) (fun hHeld => ?_)
     clear hK K
     refine NM_ (N := (some 5)) (h := ?_)
     refine PX_ 3 6 (tb_ 32 15) HT_ rfl rfl ?_
     refine PX_ 4 7 (tb_ 32 31) HT_ rfl rfl ?_
     refine TV_ (i := 5) (N := some 8) (tb_ 32 63) HT_ HW_ rfl rfl hHeld (by rintro w' ⟨s0, s1, s2, s3⟩; go_simp; with_reducible rfl) (h := ?_)
     refine one_ (i := 6) (N := some 9) (tb_ 32 127) rfl rfl (qA0 HT_.out (by kernel_rfl)) (by decide) (fun K hK => ?_)
     refine GO_ Try.func74 #[.int .i64 a0_1] (h := ?_)
     with_reducible refine (z74.calls a0_1 true _ A4.out).mono ?_
     rintro e w' ⟨rfl, ⟨nd, rfl⟩⟩
     refine ⟨_, rfl, ?_⟩
     refine hK.out _ _ (Z4_ BK101.out) (fun hHeld => ?_)
     clear hK K
     refine NM_ (N := (some 9)) (h := ?_)
     refine PX_ 7 10 (tb_ 32 255) HT_ rfl rfl ?_
     refine PX_ 8 11 (tb_ 32 511) HT_ rfl rfl ?_
     refine PX_ 9 12 (tb_ 32 1023) HT_ rfl rfl ?_
     refine TV_ (i := 10) (N := some 13) (tb_ 32 2047) HT_ HW_ rfl rfl hHeld (by rintro w' ⟨s0, s1, s2, s3⟩; go_simp; with_reducible rfl) (h := ?_)
     refine one_ (i := 11) (N := some 14) (tb_ 32 4095) rfl rfl (qA0 HT_.out (by kernel_rfl)) (by decide) (fun K hK => ?_)
     refine GO_ Try.func74 #[.int .i64 a0_2] (h := ?_)
     with_reducible refine (z74.calls a0_2 true _ A6.out).mono ?_
     rintro e w' ⟨rfl, ⟨nd, rfl⟩⟩
     refine ⟨_, rfl, ?_⟩
     refine hK.out _ _ (Z4_ BK101.out) (fun hHeld => ?_)
     clear hK K
     refine NM_ (N := (some 14)) (h := ?_)
     refine PX_ 12 15 (tb_ 32 8191) HT_ rfl rfl ?_
     refine PX_ 13 16 (tb_ 32 16383) HT_ rfl rfl ?_
     refine PX_ 14 17 (tb_ 32 32767) HT_ rfl rfl ?_
     refine PX_ 17 20 (tb_ 32 163839) HT_ rfl rfl ?_
     refine PX_ 19 22 (tb_ 32 688127) HT_ rfl rfl ?_
     refine TV_ (i := 15) (N := some 18) (tb_ 32 720895) HT_ HW_ rfl rfl hHeld (by rintro w' ⟨s0, s1, s2, s3⟩; go_simp; with_reducible rfl) (h := ?_)
     refine TV_ (i := 18) (N := some 21) (tb_ 32 983039) HT_ HW_ rfl rfl hHeld (by rintro w' ⟨s0, s1, s2, s3⟩; go_simp; with_reducible rfl) (h := ?_)
     refine TV_ (i := 20) (N := some 23) (tb_ 32 2031615) HT_ HW_ rfl rfl hHeld (by rintro w' ⟨s0, s1, s2, s3⟩; go_simp; with_reducible rfl) (h := ?_)
     refine PX_ 21 24 (tb_ 32 4128767) HT_ rfl rfl ?_
     refine one_ (i := 16) (N := some 19) (tb_ 32 4194303) rfl rfl (qA0 HT_.out (by kernel_rfl)) (by decide) (fun K hK => ?_)
     refine GO_ Try.func106 #[.slice A0_3 l0_3.length c0_3] (h := ?_)
     with_reducible refine (z106.calls _ _ l0_3 t105 _ ?side1 ?side2 A8.out).mono ?_
     (case side1 => repeat (first | exact (Kd.C_below HR0_3.out (B1_ HB.out GE101.out)) | (with_reducible refine Kd.C_alloc ?_ _) | (with_reducible refine Kd.C_drewN ?_ _) | (with_reducible refine Kd.C_drew ?_)))
     (case side2 => exact HC0_3.out)
     rintro e w' ⟨rfl, ⟨nd, rfl⟩⟩
     refine ⟨_, rfl, ?_⟩
     refine hK.out _ _ (Z4_ BK101.out) (fun hHeld => ?_)
     clear hK K
     refine NM_ (N := (some 19)) (h := ?_)
     refine PX_ 22 25 (tb_ 32 8388607) HT_ rfl rfl ?_
     refine PX_ 23 26 (tb_ 32 16777215) HT_ rfl rfl ?_
     refine PX_ 24 27 (tb_ 32 33554431) HT_ rfl rfl ?_
     refine PX_ 25 28 (tb_ 32 67108863) HT_ rfl rfl ?_
     refine PX_ 27 30 (tb_ 32 201326591) HT_ rfl rfl ?_
     refine TV_ (i := 26) (N := some 29) (tb_ 32 268435455) HT_ HW_ rfl rfl hHeld (by rintro w' ⟨s0, s1, s2, s3⟩; go_simp; with_reducible rfl) (h := ?_)
     refine TV_ (i := 28) (N := some 31) (tb_ 32 536870911) HT_ HW_ rfl rfl hHeld (by rintro w' ⟨s0, s1, s2, s3⟩; go_simp; with_reducible rfl) (h := ?_)
     refine one_ (i := 29) (N := some 32) (tb_ 32 1073741823) rfl rfl (qA0 HT_.out (by kernel_rfl)) (by decide) (fun K hK => ?_)
     refine GO_ Try.func107 #[.slice A0_3 l0_3.length c0_3, .int .i64 a0_0] (h := ?_)
     with_reducible refine (z107.calls k _ _ l0_3 a0_0 t106 _ ?side1 ?side2 A10.out).mono ?_
     (case side1 => repeat (first | exact (Kd.C_below HR0_3.out (B1_ HB.out GE101.out)) | (with_reducible refine Kd.C_alloc ?_ _) | (with_reducible refine Kd.C_drewN ?_ _) | (with_reducible refine Kd.C_drew ?_)))
     (case side2 => exact HC0_3.out)
     rintro e w13 ⟨rfl, hb⟩
     refine ⟨_, rfl, ?_⟩
     replace BK101 := Zz.mk (kb_ BK101.out hb)
     replace HB := Zz.mk (bT_ (B1_ HB.out GE101.out) hb)
     (try clear hb)
     refine hK.out _ _ (Z4_ BK101.out) (fun hHeld => ?_)
     clear hK K
     refine NM_ (N := (some 32)) (h := ?_)
     refine PX_ 30 33 (tb_ 32 2147483647) HT_ rfl rfl ?_
     refine PX_ 31 2 (tb_ 32 4294967295) HT_ rfl rfl ?_
     refine qBq (qA5 HT_.out (by kernel_rfl)) ?_
     try go_wp2
     go_ret
     exact ⟨F_, B1_ HB.out GE101.out⟩
    rw [if_neg c9] at H
    have c9b0 : (t105 == (wrap64 (a0_1 * a0_2))) = false := beq_eq_false_iff_ne.mpr c9
    have c9b1 : (t105 != (wrap64 (a0_1 * a0_2))) = true := bne_iff_ne.mpr c9
    obtain rfl := OI_ H
    go_enter Try.func79, Try.ntmps79
    try go_wp2_with (first | ((with_reducible refine qAn (N := 1) rfl ?_); refine bx_ 1 #[.int .i64 a0_0, .int .i64 a0_1, .int .i64 a0_2, .slice A0_3 l0_3.length c0_3] 55 ?_; intro gb101 hg w14 hbox hb; have BK101 := Zz.mk (hbox); have GW101 := Zz.mk ((gw_ hg (B_ HB.out))); have GE101 := GW101; replace HB := Zz.mk (bT_ (B_ HB.out) hb); clear hb hbox hg))
    replace BK101 := Zz.mk (bD_ BK101.out)
    replace HB := Zz.mk (qAe HB.out)
    refine qBd (n := 32) (S := fun w' => w'.cell? ⟨gb101, 0, none⟩ = some (.int .i64 a0_0) ∧ w'.cell? ⟨gb101, 1, none⟩ = some (.int .i64 a0_1) ∧ w'.cell? ⟨gb101, 2, none⟩ = some (.int .i64 a0_2) ∧ w'.cell? ⟨gb101, 3, none⟩ = some (.slice A0_3 l0_3.length c0_3)) (ds := []) (tb_ 32 0) (by kernel_rfl) rfl rfl (Z4_ BK101.out) (fun hHeld => ?_); refine qA1 z79.tab1 z79.bits1 (fun HT_ HW_ => ?_)
    generalize w14.drew = w15 at BK101 HB hHeld ⊢
    refine PX_ 0 3 (tb_ 32 1) HT_ rfl rfl ?_
    refine TV_ (i := 1) (N := some 4) (tb_ 32 3) HT_ HW_ rfl rfl hHeld (by rintro w' ⟨s0, s1, s2, s3⟩; go_simp; with_reducible rfl) (h := ?_)
    refine one_ (i := 2) (N := some 5) (tb_ 32 7) rfl rfl (qA0 HT_.out (by kernel_rfl)) (by decide) (fun K hK => ?_)
    refine GO_ Try.func73 #[.int .i64 a0_0] (h := ?_)
    with_reducible refine (z73.calls k a0_0 true _ A2.out).mono ?_
    rintro e w' ⟨rfl, ⟨nd, rfl⟩⟩
    refine ⟨_, rfl, ?_⟩
    refine hK.out _ _ (Z4_ BK101.out) (fun hHeld => ?_)
    clear hK K
    refine NM_ (N := (some 5)) (h := ?_)
    refine PX_ 3 6 (tb_ 32 15) HT_ rfl rfl ?_
    refine PX_ 4 7 (tb_ 32 31) HT_ rfl rfl ?_
    refine TV_ (i := 5) (N := some 8) (tb_ 32 63) HT_ HW_ rfl rfl hHeld (by rintro w' ⟨s0, s1, s2, s3⟩; go_simp; with_reducible rfl) (h := ?_)
    refine one_ (i := 6) (N := some 9) (tb_ 32 127) rfl rfl (qA0 HT_.out (by kernel_rfl)) (by decide) (fun K hK => ?_)
    refine GO_ Try.func74 #[.int .i64 a0_1] (h := ?_)
    with_reducible refine (z74.calls a0_1 true _ A4.out).mono ?_
    rintro e w' ⟨rfl, ⟨nd, rfl⟩⟩
    refine ⟨_, rfl, ?_⟩
    refine hK.out _ _ (Z4_ BK101.out) (fun hHeld => ?_)
    clear hK K
    refine NM_ (N := (some 9)) (h := ?_)
    refine PX_ 7 10 (tb_ 32 255) HT_ rfl rfl ?_
    refine PX_ 8 11 (tb_ 32 511) HT_ rfl rfl ?_
    refine PX_ 9 12 (tb_ 32 1023) HT_ rfl rfl ?_
    refine TV_ (i := 10) (N := some 13) (tb_ 32 2047) HT_ HW_ rfl rfl hHeld (by rintro w' ⟨s0, s1, s2, s3⟩; go_simp; with_reducible rfl) (h := ?_)
    refine one_ (i := 11) (N := some 14) (tb_ 32 4095) rfl rfl (qA0 HT_.out (by kernel_rfl)) (by decide) (fun K hK => ?_)
    refine GO_ Try.func74 #[.int .i64 a0_2] (h := ?_)
    with_reducible refine (z74.calls a0_2 true _ A6.out).mono ?_
    rintro e w' ⟨rfl, ⟨nd, rfl⟩⟩
    refine ⟨_, rfl, ?_⟩
    refine hK.out _ _ (Z4_ BK101.out) (fun hHeld => ?_)
    clear hK K
    refine NM_ (N := (some 14)) (h := ?_)
    refine PX_ 12 15 (tb_ 32 8191) HT_ rfl rfl ?_
    refine PX_ 13 16 (tb_ 32 16383) HT_ rfl rfl ?_
    refine PX_ 14 17 (tb_ 32 32767) HT_ rfl rfl ?_
    refine PX_ 17 20 (tb_ 32 163839) HT_ rfl rfl ?_
    refine PX_ 19 22 (tb_ 32 688127) HT_ rfl rfl ?_
    refine TV_ (i := 15) (N := some 18) (tb_ 32 720895) HT_ HW_ rfl rfl hHeld (by rintro w' ⟨s0, s1, s2, s3⟩; go_simp; with_reducible rfl) (h := ?_)
    refine TV_ (i := 18) (N := some 21) (tb_ 32 983039) HT_ HW_ rfl rfl hHeld (by rintro w' ⟨s0, s1, s2, s3⟩; go_simp; with_reducible rfl) (h := ?_)
    refine TV_ (i := 20) (N := some 23) (tb_ 32 2031615) HT_ HW_ rfl rfl hHeld (by rintro w' ⟨s0, s1, s2, s3⟩; go_simp; with_reducible rfl) (h := ?_)
    refine PX_ 21 24 (tb_ 32 4128767) HT_ rfl rfl ?_
    refine one_ (i := 16) (N := some 19) (tb_ 32 4194303) rfl rfl (qA0 HT_.out (by kernel_rfl)) (by decide) (fun K hK => ?_)
    refine GO_ Try.func106 #[.slice A0_3 l0_3.length c0_3] (h := ?_)
    with_reducible refine (z106.calls _ _ l0_3 t105 _ ?side1 ?side2 A8.out).mono ?_
    (case side1 => repeat (first | exact (Kd.C_below HR0_3.out (B1_ HB.out GE101.out)) | (with_reducible refine Kd.C_alloc ?_ _) | (with_reducible refine Kd.C_drewN ?_ _) | (with_reducible refine Kd.C_drew ?_)))
    (case side2 => exact HC0_3.out)
    rintro e w' ⟨rfl, ⟨nd, rfl⟩⟩
    refine ⟨_, rfl, ?_⟩
    refine hK.out _ _ (Z4_ BK101.out) (fun hHeld => ?_)
    clear hK K
    refine NM_ (N := (some 19)) (h := ?_)
    refine PX_ 22 25 (tb_ 32 8388607) HT_ rfl rfl ?_
    refine PX_ 23 26 (tb_ 32 16777215) HT_ rfl rfl ?_
    refine PX_ 24 27 (tb_ 32 33554431) HT_ rfl rfl ?_
    refine PY_ 25 28 (tb_ 32 67108863) HT_ rfl rfl ?_
    refine PY_ 26 29 (tb_ 32 134217727) HT_ rfl rfl ?_
    refine PY_ 27 30 (tb_ 32 268435455) HT_ rfl rfl ?_
    refine PY_ 28 31 (tb_ 32 536870911) HT_ rfl rfl ?_
    refine PY_ 29 32 (tb_ 32 1073741823) HT_ rfl rfl ?_
    refine PX_ 30 33 (tb_ 32 2147483647) HT_ rfl rfl ?_
    refine PX_ 31 2 (tb_ 32 4294967295) HT_ rfl rfl ?_
    refine qBq (qA5 HT_.out (by kernel_rfl)) ?_
    try go_wp2
    go_ret
    exact ⟨F_, B1_ HB.out GE101.out⟩
   replace c7 := Bool.eq_false_iff.mpr c7
   subst c7
   replace H := N_ H
   obtain rfl := OI_ H
   go_enter Try.func79, Try.ntmps79
   try go_wp2_with (first | ((with_reducible refine qAn (N := 1) rfl ?_); refine bx_ 1 #[.int .i64 a0_0, .int .i64 a0_1, .int .i64 a0_2, .slice A0_3 l0_3.length c0_3] 55 ?_; intro gb101 hg w16 hbox hb; have BK101 := Zz.mk (hbox); have GW101 := Zz.mk ((gw_ hg (B_ HB.out))); have GE101 := GW101; replace HB := Zz.mk (bT_ (B_ HB.out) hb); clear hb hbox hg))
   replace BK101 := Zz.mk (bD_ BK101.out)
   replace HB := Zz.mk (qAe HB.out)
   refine qBd (n := 32) (S := fun w' => w'.cell? ⟨gb101, 0, none⟩ = some (.int .i64 a0_0) ∧ w'.cell? ⟨gb101, 1, none⟩ = some (.int .i64 a0_1) ∧ w'.cell? ⟨gb101, 2, none⟩ = some (.int .i64 a0_2) ∧ w'.cell? ⟨gb101, 3, none⟩ = some (.slice A0_3 l0_3.length c0_3)) (ds := []) (tb_ 32 0) (by kernel_rfl) rfl rfl (Z4_ BK101.out) (fun hHeld => ?_); refine qA1 z79.tab1 z79.bits1 (fun HT_ HW_ => ?_)
   generalize w16.drew = w17 at BK101 HB hHeld ⊢
   refine PX_ 0 3 (tb_ 32 1) HT_ rfl rfl ?_
   refine TV_ (i := 1) (N := some 4) (tb_ 32 3) HT_ HW_ rfl rfl hHeld (by rintro w' ⟨s0, s1, s2, s3⟩; go_simp; with_reducible rfl) (h := ?_)
   refine one_ (i := 2) (N := some 5) (tb_ 32 7) rfl rfl (qA0 HT_.out (by kernel_rfl)) (by decide) (fun K hK => ?_)
   refine GO_ Try.func73 #[.int .i64 a0_0] (h := ?_)
   with_reducible refine (z73.calls k a0_0 true _ A2.out).mono ?_
   rintro e w' ⟨rfl, ⟨nd, rfl⟩⟩
   refine ⟨_, rfl, ?_⟩
   refine hK.out _ _ (Z4_ BK101.out) (fun hHeld => ?_)
   clear hK K
   refine NM_ (N := (some 5)) (h := ?_)
   refine PX_ 3 6 (tb_ 32 15) HT_ rfl rfl ?_
   refine PX_ 4 7 (tb_ 32 31) HT_ rfl rfl ?_
   refine TV_ (i := 5) (N := some 8) (tb_ 32 63) HT_ HW_ rfl rfl hHeld (by rintro w' ⟨s0, s1, s2, s3⟩; go_simp; with_reducible rfl) (h := ?_)
   refine one_ (i := 6) (N := some 9) (tb_ 32 127) rfl rfl (qA0 HT_.out (by kernel_rfl)) (by decide) (fun K hK => ?_)
   refine GO_ Try.func74 #[.int .i64 a0_1] (h := ?_)
   with_reducible refine (z74.calls a0_1 true _ A4.out).mono ?_
   rintro e w' ⟨rfl, ⟨nd, rfl⟩⟩
   refine ⟨_, rfl, ?_⟩
   refine hK.out _ _ (Z4_ BK101.out) (fun hHeld => ?_)
   clear hK K
   refine NM_ (N := (some 9)) (h := ?_)
   refine PX_ 7 10 (tb_ 32 255) HT_ rfl rfl ?_
   refine PX_ 8 11 (tb_ 32 511) HT_ rfl rfl ?_
   refine PX_ 9 12 (tb_ 32 1023) HT_ rfl rfl ?_
   refine TV_ (i := 10) (N := some 13) (tb_ 32 2047) HT_ HW_ rfl rfl hHeld (by rintro w' ⟨s0, s1, s2, s3⟩; go_simp; with_reducible rfl) (h := ?_)
   refine one_ (i := 11) (N := some 14) (tb_ 32 4095) rfl rfl (qA0 HT_.out (by kernel_rfl)) (by decide) (fun K hK => ?_)
   refine GO_ Try.func74 #[.int .i64 a0_2] (h := ?_)
   with_reducible refine (z74.calls a0_2 false _ A6.out).mono ?_
   rintro e w' ⟨rfl, ⟨nd, rfl⟩⟩
   refine ⟨_, rfl, ?_⟩
   refine hK.out _ _ (Z4_ BK101.out) (fun hHeld => ?_)
   clear hK K
   refine NM_ (N := (some 14)) (h := ?_)
   refine PX_ 12 15 (tb_ 32 8191) HT_ rfl rfl ?_
   refine PX_ 13 16 (tb_ 32 16383) HT_ rfl rfl ?_
   refine PY_ 14 17 (tb_ 32 32767) HT_ rfl rfl ?_
   refine PY_ 15 18 (tb_ 32 65535) HT_ rfl rfl ?_
   refine PY_ 16 19 (tb_ 32 131071) HT_ rfl rfl ?_
   refine PY_ 17 20 (tb_ 32 262143) HT_ rfl rfl ?_
   refine PY_ 18 21 (tb_ 32 524287) HT_ rfl rfl ?_
   refine PY_ 19 22 (tb_ 32 1048575) HT_ rfl rfl ?_
   refine PY_ 20 23 (tb_ 32 2097151) HT_ rfl rfl ?_
   refine PY_ 21 24 (tb_ 32 4194303) HT_ rfl rfl ?_
   refine PY_ 22 25 (tb_ 32 8388607) HT_ rfl rfl ?_
   refine PX_ 23 26 (tb_ 32 16777215) HT_ rfl rfl ?_
   refine PX_ 24 27 (tb_ 32 33554431) HT_ rfl rfl ?_
   refine PY_ 25 28 (tb_ 32 67108863) HT_ rfl rfl ?_
   refine PY_ 26 29 (tb_ 32 134217727) HT_ rfl rfl ?_
   refine PY_ 27 30 (tb_ 32 268435455) HT_ rfl rfl ?_
   refine PY_ 28 31 (tb_ 32 536870911) HT_ rfl rfl ?_
   refine PY_ 29 32 (tb_ 32 1073741823) HT_ rfl rfl ?_
   refine PX_ 30 33 (tb_ 32 2147483647) HT_ rfl rfl ?_
   refine PX_ 31 2 (tb_ 32 4294967295) HT_ rfl rfl ?_
   refine qBq (qA5 HT_.out (by kernel_rfl)) ?_
   try go_wp2
   go_ret
   exact ⟨F_, B1_ HB.out GE101.out⟩
  replace c5 := Bool.eq_false_iff.mpr c5
  subst c5
  replace H := N_ H
  obtain rfl := OI_ H
  go_enter Try.func79, Try.ntmps79
  try go_wp2_with (first | ((with_reducible refine qAn (N := 1) rfl ?_); refine bx_ 1 #[.int .i64 a0_0, .int .i64 a0_1, .int .i64 a0_2, .slice A0_3 l0_3.length c0_3] 55 ?_; intro gb101 hg w18 hbox hb; have BK101 := Zz.mk (hbox); have GW101 := Zz.mk ((gw_ hg (B_ HB.out))); have GE101 := GW101; replace HB := Zz.mk (bT_ (B_ HB.out) hb); clear hb hbox hg))
  replace BK101 := Zz.mk (bD_ BK101.out)
  replace HB := Zz.mk (qAe HB.out)
  refine qBd (n := 32) (S := fun w' => w'.cell? ⟨gb101, 0, none⟩ = some (.int .i64 a0_0) ∧ w'.cell? ⟨gb101, 1, none⟩ = some (.int .i64 a0_1) ∧ w'.cell? ⟨gb101, 2, none⟩ = some (.int .i64 a0_2) ∧ w'.cell? ⟨gb101, 3, none⟩ = some (.slice A0_3 l0_3.length c0_3)) (ds := []) (tb_ 32 0) (by kernel_rfl) rfl rfl (Z4_ BK101.out) (fun hHeld => ?_); refine qA1 z79.tab1 z79.bits1 (fun HT_ HW_ => ?_)
  generalize w18.drew = w19 at BK101 HB hHeld ⊢
  refine PX_ 0 3 (tb_ 32 1) HT_ rfl rfl ?_
  refine TV_ (i := 1) (N := some 4) (tb_ 32 3) HT_ HW_ rfl rfl hHeld (by rintro w' ⟨s0, s1, s2, s3⟩; go_simp; with_reducible rfl) (h := ?_)
  refine one_ (i := 2) (N := some 5) (tb_ 32 7) rfl rfl (qA0 HT_.out (by kernel_rfl)) (by decide) (fun K hK => ?_)
  refine GO_ Try.func73 #[.int .i64 a0_0] (h := ?_)
  with_reducible refine (z73.calls k a0_0 true _ A2.out).mono ?_
  rintro e w' ⟨rfl, ⟨nd, rfl⟩⟩
  refine ⟨_, rfl, ?_⟩
  refine hK.out _ _ (Z4_ BK101.out) (fun hHeld => ?_)
  clear hK K
  refine NM_ (N := (some 5)) (h := ?_)
  refine PX_ 3 6 (tb_ 32 15) HT_ rfl rfl ?_
  refine PX_ 4 7 (tb_ 32 31) HT_ rfl rfl ?_
  refine TV_ (i := 5) (N := some 8) (tb_ 32 63) HT_ HW_ rfl rfl hHeld (by rintro w' ⟨s0, s1, s2, s3⟩; go_simp; with_reducible rfl) (h := ?_)
  refine one_ (i := 6) (N := some 9) (tb_ 32 127) rfl rfl (qA0 HT_.out (by kernel_rfl)) (by decide) (fun K hK => ?_)
  refine GO_ Try.func74 #[.int .i64 a0_1] (h := ?_)
  with_reducible refine (z74.calls a0_1 false _ A4.out).mono ?_
  rintro e w' ⟨rfl, ⟨nd, rfl⟩⟩
  refine ⟨_, rfl, ?_⟩
  refine hK.out _ _ (Z4_ BK101.out) (fun hHeld => ?_)
  clear hK K
  refine NM_ (N := (some 9)) (h := ?_)
  refine PX_ 7 10 (tb_ 32 255) HT_ rfl rfl ?_
  refine PX_ 8 11 (tb_ 32 511) HT_ rfl rfl ?_
  refine PY_ 9 12 (tb_ 32 1023) HT_ rfl rfl ?_
  refine PY_ 10 13 (tb_ 32 2047) HT_ rfl rfl ?_
  refine PY_ 11 14 (tb_ 32 4095) HT_ rfl rfl ?_
  refine PX_ 12 15 (tb_ 32 8191) HT_ rfl rfl ?_
  refine PX_ 13 16 (tb_ 32 16383) HT_ rfl rfl ?_
  refine PY_ 14 17 (tb_ 32 32767) HT_ rfl rfl ?_
  refine PY_ 15 18 (tb_ 32 65535) HT_ rfl rfl ?_
  refine PY_ 16 19 (tb_ 32 131071) HT_ rfl rfl ?_
  refine PY_ 17 20 (tb_ 32 262143) HT_ rfl rfl ?_
  refine PY_ 18 21 (tb_ 32 524287) HT_ rfl rfl ?_
  refine PY_ 19 22 (tb_ 32 1048575) HT_ rfl rfl ?_
  refine PY_ 20 23 (tb_ 32 2097151) HT_ rfl rfl ?_
  refine PY_ 21 24 (tb_ 32 4194303) HT_ rfl rfl ?_
  refine PY_ 22 25 (tb_ 32 8388607) HT_ rfl rfl ?_
  refine PX_ 23 26 (tb_ 32 16777215) HT_ rfl rfl ?_
  refine PX_ 24 27 (tb_ 32 33554431) HT_ rfl rfl ?_
  refine PY_ 25 28 (tb_ 32 67108863) HT_ rfl rfl ?_
  refine PY_ 26 29 (tb_ 32 134217727) HT_ rfl rfl ?_
  refine PY_ 27 30 (tb_ 32 268435455) HT_ rfl rfl ?_
  refine PY_ 28 31 (tb_ 32 536870911) HT_ rfl rfl ?_
  refine PY_ 29 32 (tb_ 32 1073741823) HT_ rfl rfl ?_
  refine PX_ 30 33 (tb_ 32 2147483647) HT_ rfl rfl ?_
  refine PX_ 31 2 (tb_ 32 4294967295) HT_ rfl rfl ?_
  refine qBq (qA5 HT_.out (by kernel_rfl)) ?_
  try go_wp2
  go_ret
  exact ⟨F_, B1_ HB.out GE101.out⟩
 replace c3 := Bool.eq_false_iff.mpr c3
 subst c3
 replace H := N_ H
 obtain rfl := OI_ H
 go_enter Try.func79, Try.ntmps79
 try go_wp2_with (first | ((with_reducible refine qAn (N := 1) rfl ?_); refine bx_ 1 #[.int .i64 a0_0, .int .i64 a0_1, .int .i64 a0_2, .slice A0_3 l0_3.length c0_3] 55 ?_; intro gb101 hg w20 hbox hb; have BK101 := Zz.mk (hbox); have GW101 := Zz.mk ((gw_ hg (B_ HB.out))); have GE101 := GW101; replace HB := Zz.mk (bT_ (B_ HB.out) hb); clear hb hbox hg))
 replace BK101 := Zz.mk (bD_ BK101.out)
 replace HB := Zz.mk (qAe HB.out)
 refine qBd (n := 32) (S := fun w' => w'.cell? ⟨gb101, 0, none⟩ = some (.int .i64 a0_0) ∧ w'.cell? ⟨gb101, 1, none⟩ = some (.int .i64 a0_1) ∧ w'.cell? ⟨gb101, 2, none⟩ = some (.int .i64 a0_2) ∧ w'.cell? ⟨gb101, 3, none⟩ = some (.slice A0_3 l0_3.length c0_3)) (ds := []) (tb_ 32 0) (by kernel_rfl) rfl rfl (Z4_ BK101.out) (fun hHeld => ?_); refine qA1 z79.tab1 z79.bits1 (fun HT_ HW_ => ?_)
 generalize w20.drew = w21 at BK101 HB hHeld ⊢
 refine PX_ 0 3 (tb_ 32 1) HT_ rfl rfl ?_
 refine TV_ (i := 1) (N := some 4) (tb_ 32 3) HT_ HW_ rfl rfl hHeld (by rintro w' ⟨s0, s1, s2, s3⟩; go_simp; with_reducible rfl) (h := ?_)
 refine one_ (i := 2) (N := some 5) (tb_ 32 7) rfl rfl (qA0 HT_.out (by kernel_rfl)) (by decide) (fun K hK => ?_)
 refine GO_ Try.func73 #[.int .i64 a0_0] (h := ?_)
 with_reducible refine (z73.calls k a0_0 false _ A2.out).mono ?_
 rintro e w' ⟨rfl, ⟨nd, rfl⟩⟩
 refine ⟨_, rfl, ?_⟩
 refine hK.out _ _ (Z4_ BK101.out) (fun hHeld => ?_)
 clear hK K
 refine NM_ (N := (some 5)) (h := ?_)
 refine PX_ 3 6 (tb_ 32 15) HT_ rfl rfl ?_
 refine PY_ 4 7 (tb_ 32 31) HT_ rfl rfl ?_
 refine PY_ 5 8 (tb_ 32 63) HT_ rfl rfl ?_
 refine PY_ 6 9 (tb_ 32 127) HT_ rfl rfl ?_
 refine PX_ 7 10 (tb_ 32 255) HT_ rfl rfl ?_
 refine PX_ 8 11 (tb_ 32 511) HT_ rfl rfl ?_
 refine PY_ 9 12 (tb_ 32 1023) HT_ rfl rfl ?_
 refine PY_ 10 13 (tb_ 32 2047) HT_ rfl rfl ?_
 refine PY_ 11 14 (tb_ 32 4095) HT_ rfl rfl ?_
 refine PX_ 12 15 (tb_ 32 8191) HT_ rfl rfl ?_
 refine PX_ 13 16 (tb_ 32 16383) HT_ rfl rfl ?_
 refine PY_ 14 17 (tb_ 32 32767) HT_ rfl rfl ?_
 refine PY_ 15 18 (tb_ 32 65535) HT_ rfl rfl ?_
 refine PY_ 16 19 (tb_ 32 131071) HT_ rfl rfl ?_
 refine PY_ 17 20 (tb_ 32 262143) HT_ rfl rfl ?_
 refine PY_ 18 21 (tb_ 32 524287) HT_ rfl rfl ?_
 refine PY_ 19 22 (tb_ 32 1048575) HT_ rfl rfl ?_
 refine PY_ 20 23 (tb_ 32 2097151) HT_ rfl rfl ?_
 refine PY_ 21 24 (tb_ 32 4194303) HT_ rfl rfl ?_
 refine PY_ 22 25 (tb_ 32 8388607) HT_ rfl rfl ?_
 refine PX_ 23 26 (tb_ 32 16777215) HT_ rfl rfl ?_
 refine PX_ 24 27 (tb_ 32 33554431) HT_ rfl rfl ?_
 refine PY_ 25 28 (tb_ 32 67108863) HT_ rfl rfl ?_
 refine PY_ 26 29 (tb_ 32 134217727) HT_ rfl rfl ?_
 refine PY_ 27 30 (tb_ 32 268435455) HT_ rfl rfl ?_
 refine PY_ 28 31 (tb_ 32 536870911) HT_ rfl rfl ?_
 refine PY_ 29 32 (tb_ 32 1073741823) HT_ rfl rfl ?_
 refine PX_ 30 33 (tb_ 32 2147483647) HT_ rfl rfl ?_
 refine PX_ 31 2 (tb_ 32 4294967295) HT_ rfl rfl ?_
 refine qBq (qA5 HT_.out (by kernel_rfl)) ?_
 try go_wp2
 go_ret
 exact ⟨F_, B1_ HB.out GE101.out⟩
end Go.Proofs.Ytkgajpngeglkmaa.B
