/- Printed proofs of functions of the program and of the reference, by a program of this work over the kit's printer. -/
import Derived.Test.YtkgajpngeglkmaaKKJBPOK0
import Derived.Test.YtkgajpngeglkmaaKLBBOAD0
import Derived.Test.YtkgajpngeglkmaaKW0
namespace Go.Proofs.Ytkgajpngeglkmaa.B
open Go.RowKit Go.Proofs.YtkgajpngeglkmaaW.PrintWords Go.Proofs.YtkgajpngeglkmaaW.PrintLast Go.Proofs.YtkgajpngeglkmaaW.PrintMore
attribute [local go_sem] qAh qAf qAn qAm qAc qAb qAg qAe
set_option linter.unusedVariables false
set_option linter.unusedSimpArgs false
def z54.f (k : Nat) (a0_0 : Int) (a0_1 : Int) (l0_2 : List (List Int)) : Option (Bool) := (z73.f k a0_0).bind fun t102 => (if t102 = true then ((z74.f a0_1).bind fun t103 => (if t103 = true then ((z75.f k l0_2 a0_1 a0_0).bind fun t104 => (if t104 = true then ((z76.f k a0_0 a0_1 l0_2).bind fun bt105 => ((z95.f k bt105.2.2 l0_2).bind fun t110 => (some t110))) else (some false))) else (some false))) else (some false))
def z54.T1 : Bool × List (List Nat × List Nat) := (true, [([], []), ([0], [0]), ([1], [1]), ([2, 2], [2]), ([3], [3]), ([4, 3], [3, 4]), ([5, 3, 3], [3, 5]), ([3, 6], [3, 6]), ([7, 6], [7]), ([8], [8]), ([9, 8], [8, 9]), ([8], [8]), ([11, 8], [8, 11]), ([8], [8]), ([13, 8], [8, 13]), ([10, 12, 14, 8, 8], [8, 10, 12, 14]), ([8, 15], [8, 15]), ([16, 15], [16]), ([17], [17]), ([18, 17], [17, 18]), ([17], [17]), ([20, 17], [17, 20]), ([17], [17]), ([22, 17], [17, 22]), ([19, 21, 23, 17, 17], [17, 19, 21, 23]), ([24, 17], [17, 24]), ([17], [17]), ([26, 17], [17, 26]), ([25, 27, 24, 17], [17, 25, 27]), ([17, 28], [17, 28]), ([29, 28, 0, 1, 2, 3, 4, 5, 6, 7, 8, 9, 10, 11, 12, 13, 14, 15, 16, 17, 18, 19, 20, 21, 22, 23, 24, 25, 26, 27, 28, 29], [29])])
def z54.B1 : List Nat := [0, 1, 3, 7, 15, 31, 63, 127, 255, 511, 1023, 511, 2559, 511, 8703, 32767, 65535, 131071, 262143, 524287, 262143, 1310719, 262143, 4456447, 16777215, 33554431, 262143, 67371007, 268435455, 536870911, 1073741823]
theorem z54.tab1 : rtab .any (qCk Try.f54 1) = z54.T1 := by kernel_rfl
theorem z54.bits1 : qA9 z54.T1.2 z54.B1 = true := by kernel_rfl
set_option maxHeartbeats 8000000 in
set_option maxRecDepth 100000 in
theorem z54.calls (k : Nat) (a0_0 : Int) (a0_1 : Int) (A0_2 : Option Addr) (c0_2 : Nat) (l0_2 : List (List Int)) (r : Bool) (w : World) (hr0_2 : Kd.C (Kd.slice 2 (Kd.int .i64)) w A0_2 l0_2.length l0_2) (hc0_2 : l0_2.length ≤ c0_2) (h : z54.f k a0_0 a0_1 l0_2 = some r) :
  Calls Try.prog 54 #[.agg #[.int .i64 a0_0, .int .i64 a0_1, .slice A0_2 l0_2.length c0_2]] w fun e w' => e = .returned (.bool r) ∧ Below w.heap.size w w' := by
 have hu28 := Try.underlying28
 have HR0_2 := Zz.mk hr0_2
 have HC0_2 := Zz.mk hc0_2
 clear hr0_2 hc0_2
 have HB := Zz.mk (Below.refl w.heap.size w)
 have H : ((z73.f k a0_0).bind fun t102 => (if t102 = true then ((z74.f a0_1).bind fun t103 => (if t103 = true then ((z75.f k l0_2 a0_1 a0_0).bind fun t104 => (if t104 = true then ((z76.f k a0_0 a0_1 l0_2).bind fun bt105 => ((z95.f k bt105.2.2 l0_2).bind fun t110 => (some t110))) else (some false))) else (some false))) else (some false))) = some r := h
 clear h
 replace H := OZ_ H
 obtain ⟨t102, A2, H⟩ := H
 by_cases c3 : t102 = true
 ·subst c3
  replace H := T_ H
  replace H := OZ_ H
  obtain ⟨t103, A4, H⟩ := H
  by_cases c5 : t103 = true
  ·subst c5
   replace H := T_ H
   replace H := OZ_ H
   obtain ⟨t104, A6, H⟩ := H
   by_cases c7 : t104 = true
   ·subst c7
    replace H := T_ H
    replace H := OB_ H
    obtain ⟨⟨t105, t106, t107⟩, A80, H⟩ := H
    try dsimp only at H
    have A8 := Zz.mk A80
    clear A80
    replace H := OZ_ H
    obtain ⟨t110, A9, H⟩ := H
    obtain rfl := OI_ H
    go_enter Try.func54, Try.ntmps54
    try go_wp2_with (first | ((with_reducible refine qAi (N := 1) rfl ?_); refine bx_ 1 #[.int .i64 a0_0, .int .i64 a0_1, .slice A0_2 l0_2.length c0_2] 28 ?_; intro gb101 hg w10 hbox hb; have BK101 := Zz.mk (hbox); have GW101 := Zz.mk ((gw_ hg (B_ HB.out))); have GE101 := GW101; replace HB := Zz.mk (bT_ (B_ HB.out) hb); clear hb hbox hg))
    replace BK101 := Zz.mk (bD_ BK101.out)
    replace HB := Zz.mk (qAj HB.out)
    refine qBf (n := 31) (S := fun w' => w'.cell? ⟨gb101, 0, none⟩ = some (.int .i64 a0_0) ∧ w'.cell? ⟨gb101, 1, none⟩ = some (.int .i64 a0_1) ∧ w'.cell? ⟨gb101, 2, none⟩ = some (.slice A0_2 l0_2.length c0_2)) (ds := []) (tb_ 31 0) (by kernel_rfl) rfl rfl (Z3_ BK101.out) (fun hHeld => ?_); refine qAv z54.tab1 z54.bits1 (fun HT_ HW_ => ?_)
    generalize w10.drew = w11 at BK101 HB hHeld ⊢
    refine PV_ (i := 0) (N := some 3) (tb_ 31 1) HT_ rfl rfl (h2 := by intro w'; first | (go_simp; with_reducible rfl) | rfl) (h := ?_)
    refine TX_ 1 4 (tb_ 31 3) HT_ HW_ rfl rfl hHeld ?_
    refine one_ (i := 2) (N := some 5) (tb_ 31 7) rfl rfl (qAs HT_.out (by kernel_rfl)) (by decide) (fun K hK => ?_)
    refine GO_ Try.func73 #[.int .i64 a0_0] (h := ?_)
    with_reducible refine (z73.calls k a0_0 true _ A2.out).mono ?_
    rintro e w' ⟨rfl, ⟨nd, rfl⟩⟩
    refine ⟨_, rfl, ?_⟩
    refine hK.out _ _ (Z3_ BK101.out) (fun hHeld => ?_)
    clear hK K
    refine NM_ (N := (some 5)) (h := ?_)
    refine PV_ (i := 3) (N := some 6) (tb_ 31 15) HT_ rfl rfl (h2 := by intro w'; first | (go_simp; with_reducible rfl) | rfl) (h := ?_)
    refine PV_ (i := 4) (N := some 7) (tb_ 31 31) HT_ rfl rfl (h2 := by intro w'; first | (go_simp; with_reducible rfl) | rfl) (h := ?_)
    refine TX_ 5 8 (tb_ 31 63) HT_ HW_ rfl rfl hHeld ?_
    refine one_ (i := 6) (N := some 9) (tb_ 31 127) rfl rfl (qAs HT_.out (by kernel_rfl)) (by decide) (fun K hK => ?_)
    refine GO_ Try.func74 #[.int .i64 a0_1] (h := ?_)
    with_reducible refine (z74.calls a0_1 true _ A4.out).mono ?_
    rintro e w' ⟨rfl, ⟨nd, rfl⟩⟩
    refine ⟨_, rfl, ?_⟩
    refine hK.out _ _ (Z3_ BK101.out) (fun hHeld => ?_)
    clear hK K
    refine NM_ (N := (some 9)) (h := ?_)
    refine PV_ (i := 7) (N := some 10) (tb_ 31 255) HT_ rfl rfl (h2 := by intro w'; first | (go_simp; with_reducible rfl) | rfl) (h := ?_)
    refine PV_ (i := 8) (N := some 11) (tb_ 31 511) HT_ rfl rfl (h2 := by intro w'; first | (go_simp; with_reducible rfl) | rfl) (h := ?_)
    refine PV_ (i := 9) (N := some 12) (tb_ 31 1023) HT_ rfl rfl (h2 := by intro w'; first | (go_simp; with_reducible rfl) | rfl) (h := ?_)
    refine PV_ (i := 11) (N := some 14) (tb_ 31 3071) HT_ rfl rfl (h2 := by intro w'; first | (go_simp; with_reducible rfl) | rfl) (h := ?_)
    refine PV_ (i := 13) (N := some 16) (tb_ 31 11263) HT_ rfl rfl (h2 := by intro w'; first | (go_simp; with_reducible rfl) | rfl) (h := ?_)
    refine TX_ 10 13 (tb_ 31 12287) HT_ HW_ rfl rfl hHeld ?_
    refine TX_ 12 15 (tb_ 31 16383) HT_ HW_ rfl rfl hHeld ?_
    refine TX_ 14 17 (tb_ 31 32767) HT_ HW_ rfl rfl hHeld ?_
    refine one_ (i := 15) (N := some 18) (tb_ 31 65535) rfl rfl (qAs HT_.out (by kernel_rfl)) (by decide) (fun K hK => ?_)
    refine GO_ Try.func75 #[.slice A0_2 l0_2.length c0_2, .int .i64 a0_1, .int .i64 a0_0] (h := ?_)
    with_reducible refine (z75.calls k _ _ l0_2 a0_1 a0_0 true _ ?side1 ?side2 A6.out).mono ?_
    (case side1 => repeat (first | exact (Kd.C_below HR0_2.out (B1_ HB.out GE101.out)) | (with_reducible refine Kd.C_alloc ?_ _) | (with_reducible refine Kd.C_drewN ?_ _) | (with_reducible refine Kd.C_drew ?_)))
    (case side2 => exact HC0_2.out)
    rintro e w12 ⟨rfl, hb⟩
    refine ⟨_, rfl, ?_⟩
    replace BK101 := Zz.mk (kb_ BK101.out hb)
    replace HB := Zz.mk (bT_ (B1_ HB.out GE101.out) hb)
    (try clear hb)
    refine hK.out _ _ (Z3_ BK101.out) (fun hHeld => ?_)
    clear hK K
    refine NM_ (N := (some 18)) (h := ?_)
    refine PV_ (i := 16) (N := some 19) (tb_ 31 131071) HT_ rfl rfl (h2 := by intro w'; first | (go_simp; with_reducible rfl) | rfl) (h := ?_)
    refine PV_ (i := 17) (N := some 20) (tb_ 31 262143) HT_ rfl rfl (h2 := by intro w'; first | (go_simp; with_reducible rfl) | rfl) (h := ?_)
    refine PV_ (i := 18) (N := some 21) (tb_ 31 524287) HT_ rfl rfl (h2 := by intro w'; first | (go_simp; with_reducible rfl) | rfl) (h := ?_)
    refine PV_ (i := 20) (N := some 23) (tb_ 31 1572863) HT_ rfl rfl (h2 := by intro w'; first | (go_simp; with_reducible rfl) | rfl) (h := ?_)
    refine PV_ (i := 22) (N := some 25) (tb_ 31 5767167) HT_ rfl rfl (h2 := by intro w'; first | (go_simp; with_reducible rfl) | rfl) (h := ?_)
    refine PV_ (i := 26) (N := some 29) (tb_ 31 72876031) HT_ rfl rfl (h2 := by intro w'; first | (go_simp; with_reducible rfl) | rfl) (h := ?_)
    refine TX_ 19 22 (tb_ 31 73400319) HT_ HW_ rfl rfl hHeld ?_
    refine TX_ 21 24 (tb_ 31 75497471) HT_ HW_ rfl rfl hHeld ?_
    refine TX_ 23 26 (tb_ 31 83886079) HT_ HW_ rfl rfl hHeld ?_
    refine TX_ 27 30 (tb_ 31 218103807) HT_ HW_ rfl rfl hHeld ?_
    refine one_ (i := 24) (N := some 27) (tb_ 31 234881023) rfl rfl (qAs HT_.out (by kernel_rfl)) (by decide) (fun K hK => ?_)
    refine GO_ Try.func76 #[.int .i64 a0_0, .int .i64 a0_1, .slice A0_2 l0_2.length c0_2] (h := ?_)
    with_reducible refine (z76.calls k a0_0 a0_1 _ _ l0_2 t105 t106 t107 _ ?side1 ?side2 A8.out).mono ?_
    (case side1 => exact KC_ (Kd.C_below HR0_2.out HB.out))
    (case side2 => exact HC0_2.out)
    rintro e w13 ⟨v108, rfl, ho0, hb⟩
    refine ⟨_, rfl, ?_⟩
    have HO109 := Zz.mk (Kd.S_lower ho0 (bS_ (B1_ HB.out GE101.out)))
    replace BK101 := Zz.mk (kb_ BK101.out hb)
    replace HB := Zz.mk (bT_ (B1_ HB.out GE101.out) hb)
    (try clear hb);(try clear ho0)
    obtain ⟨Ao14, co14, eo14⟩ := Kd.S_slice HO109.out
    (first | subst eo14 | obtain ⟨rfl, rfl⟩ := sl_ eo14)
    refine hK.out _ _ (Z3_ BK101.out) (fun hHeld => ?_)
    clear hK K
    refine NM_ (N := (some 27)) (h := ?_)
    refine PV_ (i := 25) (N := some 28) (tb_ 31 268435455) HT_ rfl rfl (h2 := by intro w'; first | (go_simp; with_reducible rfl) | rfl) (h := ?_)
    refine one_ (i := 28) (N := some 31) (tb_ 31 536870911) rfl rfl (qAs HT_.out (by kernel_rfl)) (by decide) (fun K hK => ?_)
    refine GO_ Try.func95 #[.slice Ao14 t107.length co14, .slice A0_2 l0_2.length c0_2] (h := ?_)
    with_reducible refine (z95.calls k _ _ t107 _ _ l0_2 t110 _ ?side1 ?side2 ?side3 ?side4 A9.out).mono ?_
    (case side1 => exact KC_ (Kd.S_reads' HO109.out).2.2)
    (case side2 => exact (Kd.S_reads' HO109.out).2.1)
    (case side3 => exact KC_ (Kd.C_below HR0_2.out HB.out))
    (case side4 => exact HC0_2.out)
    rintro e w15 ⟨rfl, hb⟩
    refine ⟨_, rfl, ?_⟩
    replace HO109 := Zz.mk (Kd.S_below (KS_ HO109.out) hb)
    replace BK101 := Zz.mk (kb_ BK101.out hb)
    replace HB := Zz.mk (bT_ (B1_ HB.out GE101.out) hb)
    (try clear hb)
    refine hK.out _ _ (Z3_ BK101.out) (fun hHeld => ?_)
    clear hK K
    refine NM_ (N := (some 31)) (h := ?_)
    refine PV_ (i := 29) (N := some 32) (tb_ 31 1073741823) HT_ rfl rfl (h2 := by intro w'; first | (go_simp; with_reducible rfl) | rfl) (h := ?_)
    refine PV_ (i := 30) (N := some 2) (tb_ 31 2147483647) HT_ rfl rfl (h2 := by intro w'; first | (go_simp; with_reducible rfl) | rfl) (h := ?_)
    refine qB0 (qA4 HT_.out (by kernel_rfl)) ?_
    try go_wp2
    go_ret
    exact ⟨F_, B1_ HB.out GE101.out⟩
   replace c7 := Bool.eq_false_iff.mpr c7
   subst c7
   replace H := N_ H
   obtain rfl := OI_ H
   go_enter Try.func54, Try.ntmps54
   try go_wp2_with (first | ((with_reducible refine qAi (N := 1) rfl ?_); refine bx_ 1 #[.int .i64 a0_0, .int .i64 a0_1, .slice A0_2 l0_2.length c0_2] 28 ?_; intro gb101 hg w16 hbox hb; have BK101 := Zz.mk (hbox); have GW101 := Zz.mk ((gw_ hg (B_ HB.out))); have GE101 := GW101; replace HB := Zz.mk (bT_ (B_ HB.out) hb); clear hb hbox hg))
   replace BK101 := Zz.mk (bD_ BK101.out)
   replace HB := Zz.mk (qAj HB.out)
   refine qBf (n := 31) (S := fun w' => w'.cell? ⟨gb101, 0, none⟩ = some (.int .i64 a0_0) ∧ w'.cell? ⟨gb101, 1, none⟩ = some (.int .i64 a0_1) ∧ w'.cell? ⟨gb101, 2, none⟩ = some (.slice A0_2 l0_2.length c0_2)) (ds := []) (tb_ 31 0) (by kernel_rfl) rfl rfl (Z3_ BK101.out) (fun hHeld => ?_); refine qAv z54.tab1 z54.bits1 (fun HT_ HW_ => ?_)
   generalize w16.drew = w17 at BK101 HB hHeld ⊢
   refine PV_ (i := 0) (N := some 3) (tb_ 31 1) HT_ rfl rfl (h2 := by intro w'; first | (go_simp; with_reducible rfl) | rfl) (h := ?_)
   refine TX_ 1 4 (tb_ 31 3) HT_ HW_ rfl rfl hHeld ?_
   refine one_ (i := 2) (N := some 5) (tb_ 31 7) rfl rfl (qAs HT_.out (by kernel_rfl)) (by decide) (fun K hK => ?_)
   refine GO_ Try.func73 #[.int .i64 a0_0] (h := ?_)
   with_reducible refine (z73.calls k a0_0 true _ A2.out).mono ?_
   rintro e w' ⟨rfl, ⟨nd, rfl⟩⟩
   refine ⟨_, rfl, ?_⟩
   refine hK.out _ _ (Z3_ BK101.out) (fun hHeld => ?_)
   clear hK K
   refine NM_ (N := (some 5)) (h := ?_)
   refine PV_ (i := 3) (N := some 6) (tb_ 31 15) HT_ rfl rfl (h2 := by intro w'; first | (go_simp; with_reducible rfl) | rfl) (h := ?_)
   refine PV_ (i := 4) (N := some 7) (tb_ 31 31) HT_ rfl rfl (h2 := by intro w'; first | (go_simp; with_reducible rfl) | rfl) (h := ?_)
   refine TX_ 5 8 (tb_ 31 63) HT_ HW_ rfl rfl hHeld ?_
   refine one_ (i := 6) (N := some 9) (tb_ 31 127) rfl rfl (qAs HT_.out (by kernel_rfl)) (by decide) (fun K hK => ?_)
   refine GO_ Try.func74 #[.int .i64 a0_1] (h := ?_)
   with_reducible refine (z74.calls a0_1 true _ A4.out).mono ?_
   rintro e w' ⟨rfl, ⟨nd, rfl⟩⟩
   refine ⟨_, rfl, ?_⟩
   refine hK.out _ _ (Z3_ BK101.out) (fun hHeld => ?_)
   clear hK K
   refine NM_ (N := (some 9)) (h := ?_)
   refine PV_ (i := 7) (N := some 10) (tb_ 31 255) HT_ rfl rfl (h2 := by intro w'; first | (go_simp; with_reducible rfl) | rfl) (h := ?_)
   refine PV_ (i := 8) (N := some 11) (tb_ 31 511) HT_ rfl rfl (h2 := by intro w'; first | (go_simp; with_reducible rfl) | rfl) (h := ?_)
   refine PV_ (i := 9) (N := some 12) (tb_ 31 1023) HT_ rfl rfl (h2 := by intro w'; first | (go_simp; with_reducible rfl) | rfl) (h := ?_)
   refine PV_ (i := 11) (N := some 14) (tb_ 31 3071) HT_ rfl rfl (h2 := by intro w'; first | (go_simp; with_reducible rfl) | rfl) (h := ?_)
   refine PV_ (i := 13) (N := some 16) (tb_ 31 11263) HT_ rfl rfl (h2 := by intro w'; first | (go_simp; with_reducible rfl) | rfl) (h := ?_)
   refine TX_ 10 13 (tb_ 31 12287) HT_ HW_ rfl rfl hHeld ?_
   refine TX_ 12 15 (tb_ 31 16383) HT_ HW_ rfl rfl hHeld ?_
   refine TX_ 14 17 (tb_ 31 32767) HT_ HW_ rfl rfl hHeld ?_
   refine one_ (i := 15) (N := some 18) (tb_ 31 65535) rfl rfl (qAs HT_.out (by kernel_rfl)) (by decide) (fun K hK => ?_)
   refine GO_ Try.func75 #[.slice A0_2 l0_2.length c0_2, .int .i64 a0_1, .int .i64 a0_0] (h := ?_)
   with_reducible refine (z75.calls k _ _ l0_2 a0_1 a0_0 false _ ?side1 ?side2 A6.out).mono ?_
   (case side1 => repeat (first | exact (Kd.C_below HR0_2.out (B1_ HB.out GE101.out)) | (with_reducible refine Kd.C_alloc ?_ _) | (with_reducible refine Kd.C_drewN ?_ _) | (with_reducible refine Kd.C_drew ?_)))
   (case side2 => exact HC0_2.out)
   rintro e w18 ⟨rfl, hb⟩
   refine ⟨_, rfl, ?_⟩
   replace BK101 := Zz.mk (kb_ BK101.out hb)
   replace HB := Zz.mk (bT_ (B1_ HB.out GE101.out) hb)
   (try clear hb)
   refine hK.out _ _ (Z3_ BK101.out) (fun hHeld => ?_)
   clear hK K
   refine NM_ (N := (some 18)) (h := ?_)
   refine PV_ (i := 16) (N := some 19) (tb_ 31 131071) HT_ rfl rfl (h2 := by intro w'; first | (go_simp; with_reducible rfl) | rfl) (h := ?_)
   refine PV_ (i := 17) (N := some 20) (tb_ 31 262143) HT_ rfl rfl (h2 := by intro w'; first | (go_simp; with_reducible rfl) | rfl) (h := ?_)
   refine PY_ 18 21 (tb_ 31 524287) HT_ rfl rfl ?_
   refine PY_ 19 22 (tb_ 31 1048575) HT_ rfl rfl ?_
   refine PY_ 20 23 (tb_ 31 2097151) HT_ rfl rfl ?_
   refine PY_ 21 24 (tb_ 31 4194303) HT_ rfl rfl ?_
   refine PY_ 22 25 (tb_ 31 8388607) HT_ rfl rfl ?_
   refine PY_ 23 26 (tb_ 31 16777215) HT_ rfl rfl ?_
   refine PY_ 24 27 (tb_ 31 33554431) HT_ rfl rfl ?_
   refine PY_ 25 28 (tb_ 31 67108863) HT_ rfl rfl ?_
   refine PY_ 26 29 (tb_ 31 134217727) HT_ rfl rfl ?_
   refine PY_ 27 30 (tb_ 31 268435455) HT_ rfl rfl ?_
   refine PY_ 28 31 (tb_ 31 536870911) HT_ rfl rfl ?_
   refine PV_ (i := 29) (N := some 32) (tb_ 31 1073741823) HT_ rfl rfl (h2 := by intro w'; first | (go_simp; with_reducible rfl) | rfl) (h := ?_)
   refine PV_ (i := 30) (N := some 2) (tb_ 31 2147483647) HT_ rfl rfl (h2 := by intro w'; first | (go_simp; with_reducible rfl) | rfl) (h := ?_)
   refine qB0 (qA4 HT_.out (by kernel_rfl)) ?_
   try go_wp2
   go_ret
   exact ⟨F_, B1_ HB.out GE101.out⟩
  replace c5 := Bool.eq_false_iff.mpr c5
  subst c5
  replace H := N_ H
  obtain rfl := OI_ H
  go_enter Try.func54, Try.ntmps54
  try go_wp2_with (first | ((with_reducible refine qAi (N := 1) rfl ?_); refine bx_ 1 #[.int .i64 a0_0, .int .i64 a0_1, .slice A0_2 l0_2.length c0_2] 28 ?_; intro gb101 hg w19 hbox hb; have BK101 := Zz.mk (hbox); have GW101 := Zz.mk ((gw_ hg (B_ HB.out))); have GE101 := GW101; replace HB := Zz.mk (bT_ (B_ HB.out) hb); clear hb hbox hg))
  replace BK101 := Zz.mk (bD_ BK101.out)
  replace HB := Zz.mk (qAj HB.out)
  refine qBf (n := 31) (S := fun w' => w'.cell? ⟨gb101, 0, none⟩ = some (.int .i64 a0_0) ∧ w'.cell? ⟨gb101, 1, none⟩ = some (.int .i64 a0_1) ∧ w'.cell? ⟨gb101, 2, none⟩ = some (.slice A0_2 l0_2.length c0_2)) (ds := []) (tb_ 31 0) (by kernel_rfl) rfl rfl (Z3_ BK101.out) (fun hHeld => ?_); refine qAv z54.tab1 z54.bits1 (fun HT_ HW_ => ?_)
  generalize w19.drew = w20 at BK101 HB hHeld ⊢
  refine PV_ (i := 0) (N := some 3) (tb_ 31 1) HT_ rfl rfl (h2 := by intro w'; first | (go_simp; with_reducible rfl) | rfl) (h := ?_)
  refine TX_ 1 4 (tb_ 31 3) HT_ HW_ rfl rfl hHeld ?_
  refine one_ (i := 2) (N := some 5) (tb_ 31 7) rfl rfl (qAs HT_.out (by kernel_rfl)) (by decide) (fun K hK => ?_)
  refine GO_ Try.func73 #[.int .i64 a0_0] (h := ?_)
  with_reducible refine (z73.calls k a0_0 true _ A2.out).mono ?_
  rintro e w' ⟨rfl, ⟨nd, rfl⟩⟩
  refine ⟨_, rfl, ?_⟩
  refine hK.out _ _ (Z3_ BK101.out) (fun hHeld => ?_)
  clear hK K
  refine NM_ (N := (some 5)) (h := ?_)
  refine PV_ (i := 3) (N := some 6) (tb_ 31 15) HT_ rfl rfl (h2 := by intro w'; first | (go_simp; with_reducible rfl) | rfl) (h := ?_)
  refine PV_ (i := 4) (N := some 7) (tb_ 31 31) HT_ rfl rfl (h2 := by intro w'; first | (go_simp; with_reducible rfl) | rfl) (h := ?_)
  refine TX_ 5 8 (tb_ 31 63) HT_ HW_ rfl rfl hHeld ?_
  refine one_ (i := 6) (N := some 9) (tb_ 31 127) rfl rfl (qAs HT_.out (by kernel_rfl)) (by decide) (fun K hK => ?_)
  refine GO_ Try.func74 #[.int .i64 a0_1] (h := ?_)
  with_reducible refine (z74.calls a0_1 false _ A4.out).mono ?_
  rintro e w' ⟨rfl, ⟨nd, rfl⟩⟩
  refine ⟨_, rfl, ?_⟩
  refine hK.out _ _ (Z3_ BK101.out) (fun hHeld => ?_)
  clear hK K
  refine NM_ (N := (some 9)) (h := ?_)
  refine PV_ (i := 7) (N := some 10) (tb_ 31 255) HT_ rfl rfl (h2 := by intro w'; first | (go_simp; with_reducible rfl) | rfl) (h := ?_)
  refine PV_ (i := 8) (N := some 11) (tb_ 31 511) HT_ rfl rfl (h2 := by intro w'; first | (go_simp; with_reducible rfl) | rfl) (h := ?_)
  refine PY_ 9 12 (tb_ 31 1023) HT_ rfl rfl ?_
  refine PY_ 10 13 (tb_ 31 2047) HT_ rfl rfl ?_
  refine PY_ 11 14 (tb_ 31 4095) HT_ rfl rfl ?_
  refine PY_ 12 15 (tb_ 31 8191) HT_ rfl rfl ?_
  refine PY_ 13 16 (tb_ 31 16383) HT_ rfl rfl ?_
  refine PY_ 14 17 (tb_ 31 32767) HT_ rfl rfl ?_
  refine PY_ 15 18 (tb_ 31 65535) HT_ rfl rfl ?_
  refine PV_ (i := 16) (N := some 19) (tb_ 31 131071) HT_ rfl rfl (h2 := by intro w'; first | (go_simp; with_reducible rfl) | rfl) (h := ?_)
  refine PV_ (i := 17) (N := some 20) (tb_ 31 262143) HT_ rfl rfl (h2 := by intro w'; first | (go_simp; with_reducible rfl) | rfl) (h := ?_)
  refine PY_ 18 21 (tb_ 31 524287) HT_ rfl rfl ?_
  refine PY_ 19 22 (tb_ 31 1048575) HT_ rfl rfl ?_
  refine PY_ 20 23 (tb_ 31 2097151) HT_ rfl rfl ?_
  refine PY_ 21 24 (tb_ 31 4194303) HT_ rfl rfl ?_
  refine PY_ 22 25 (tb_ 31 8388607) HT_ rfl rfl ?_
  refine PY_ 23 26 (tb_ 31 16777215) HT_ rfl rfl ?_
  refine PY_ 24 27 (tb_ 31 33554431) HT_ rfl rfl ?_
  refine PY_ 25 28 (tb_ 31 67108863) HT_ rfl rfl ?_
  refine PY_ 26 29 (tb_ 31 134217727) HT_ rfl rfl ?_
  refine PY_ 27 30 (tb_ 31 268435455) HT_ rfl rfl ?_
  refine PY_ 28 31 (tb_ 31 536870911) HT_ rfl rfl ?_
  refine PV_ (i := 29) (N := some 32) (tb_ 31 1073741823) HT_ rfl rfl (h2 := by intro w'; first | (go_simp; with_reducible rfl) | rfl) (h := ?_)
  refine PV_ (i := 30) (N := some 2) (tb_ 31 2147483647) HT_ rfl rfl (h2 := by intro w'; first | (go_simp; with_reducible rfl) | rfl) (h := ?_)
  refine qB0 (qA4 HT_.out (by kernel_rfl)) ?_
  try go_wp2
  go_ret
  exact ⟨F_, B1_ HB.out GE101.out⟩
 replace c3 := Bool.eq_false_iff.mpr c3
 subst c3
 replace H := N_ H
 obtain rfl := OI_ H
 go_enter Try.func54, Try.ntmps54
 try go_wp2_with (first | ((with_reducible refine qAi (N := 1) rfl ?_); refine bx_ 1 #[.int .i64 a0_0, .int .i64 a0_1, .slice A0_2 l0_2.length c0_2] 28 ?_; intro gb101 hg w21 hbox hb; have BK101 := Zz.mk (hbox); have GW101 := Zz.mk ((gw_ hg (B_ HB.out))); have GE101 := GW101; replace HB := Zz.mk (bT_ (B_ HB.out) hb); clear hb hbox hg))
 replace BK101 := Zz.mk (bD_ BK101.out)
 replace HB := Zz.mk (qAj HB.out)
 refine qBf (n := 31) (S := fun w' => w'.cell? ⟨gb101, 0, none⟩ = some (.int .i64 a0_0) ∧ w'.cell? ⟨gb101, 1, none⟩ = some (.int .i64 a0_1) ∧ w'.cell? ⟨gb101, 2, none⟩ = some (.slice A0_2 l0_2.length c0_2)) (ds := []) (tb_ 31 0) (by kernel_rfl) rfl rfl (Z3_ BK101.out) (fun hHeld => ?_); refine qAv z54.tab1 z54.bits1 (fun HT_ HW_ => ?_)
 generalize w21.drew = w22 at BK101 HB hHeld ⊢
 refine PV_ (i := 0) (N := some 3) (tb_ 31 1) HT_ rfl rfl (h2 := by intro w'; first | (go_simp; with_reducible rfl) | rfl) (h := ?_)
 refine TX_ 1 4 (tb_ 31 3) HT_ HW_ rfl rfl hHeld ?_
 refine one_ (i := 2) (N := some 5) (tb_ 31 7) rfl rfl (qAs HT_.out (by kernel_rfl)) (by decide) (fun K hK => ?_)
 refine GO_ Try.func73 #[.int .i64 a0_0] (h := ?_)
 with_reducible refine (z73.calls k a0_0 false _ A2.out).mono ?_
 rintro e w' ⟨rfl, ⟨nd, rfl⟩⟩
 refine ⟨_, rfl, ?_⟩
 refine hK.out _ _ (Z3_ BK101.out) (fun hHeld => ?_)
 clear hK K
 refine NM_ (N := (some 5)) (h := ?_)
 refine PV_ (i := 3) (N := some 6) (tb_ 31 15) HT_ rfl rfl (h2 := by intro w'; first | (go_simp; with_reducible rfl) | rfl) (h := ?_)
 refine PY_ 4 7 (tb_ 31 31) HT_ rfl rfl ?_
 refine PY_ 5 8 (tb_ 31 63) HT_ rfl rfl ?_
 refine PY_ 6 9 (tb_ 31 127) HT_ rfl rfl ?_
 refine PV_ (i := 7) (N := some 10) (tb_ 31 255) HT_ rfl rfl (h2 := by intro w'; first | (go_simp; with_reducible rfl) | rfl) (h := ?_)
 refine PV_ (i := 8) (N := some 11) (tb_ 31 511) HT_ rfl rfl (h2 := by intro w'; first | (go_simp; with_reducible rfl) | rfl) (h := ?_)
 refine PY_ 9 12 (tb_ 31 1023) HT_ rfl rfl ?_
 refine PY_ 10 13 (tb_ 31 2047) HT_ rfl rfl ?_
 refine PY_ 11 14 (tb_ 31 4095) HT_ rfl rfl ?_
 refine PY_ 12 15 (tb_ 31 8191) HT_ rfl rfl ?_
 refine PY_ 13 16 (tb_ 31 16383) HT_ rfl rfl ?_
 refine PY_ 14 17 (tb_ 31 32767) HT_ rfl rfl ?_
 refine PY_ 15 18 (tb_ 31 65535) HT_ rfl rfl ?_
 refine PV_ (i := 16) (N := some 19) (tb_ 31 131071) HT_ rfl rfl (h2 := by intro w'; first | (go_simp; with_reducible rfl) | rfl) (h := ?_)
 refine PV_ (i := 17) (N := some 20) (tb_ 31 262143) HT_ rfl rfl (h2 := by intro w'; first | (go_simp; with_reducible rfl) | rfl) (h := ?_)
 refine PY_ 18 21 (tb_ 31 524287) HT_ rfl rfl ?_
 refine PY_ 19 22 (tb_ 31 1048575) HT_ rfl rfl ?_
 refine PY_ 20 23 (tb_ 31 2097151) HT_ rfl rfl ?_
 refine PY_ 21 24 (tb_ 31 4194303) HT_ rfl rfl ?_
 refine PY_ 22 25 (tb_ 31 8388607) HT_ rfl rfl ?_
 refine PY_ 23 26 (tb_ 31 16777215) HT_ rfl rfl ?_
 refine PY_ 24 27 (tb_ 31 33554431) HT_ rfl rfl ?_
 refine PY_ 25 28 (tb_ 31 67108863) HT_ rfl rfl ?_
 refine PY_ 26 29 (tb_ 31 134217727) HT_ rfl rfl ?_
 refine PY_ 27 30 (tb_ 31 268435455) HT_ rfl rfl ?_
 refine PY_ 28 31 (tb_ 31 536870911) HT_ rfl rfl ?_
 refine PV_ (i := 29) (N := some 32) (tb_ 31 1073741823) HT_ rfl rfl (h2 := by intro w'; first | (go_simp; with_reducible rfl) | rfl) (h := ?_)
 refine PV_ (i := 30) (N := some 2) (tb_ 31 2147483647) HT_ rfl rfl (h2 := by intro w'; first | (go_simp; with_reducible rfl) | rfl) (h := ?_)
 refine qB0 (qA4 HT_.out (by kernel_rfl)) ?_
 try go_wp2
 go_ret
 exact ⟨F_, B1_ HB.out GE101.out⟩
end Go.Proofs.Ytkgajpngeglkmaa.B
