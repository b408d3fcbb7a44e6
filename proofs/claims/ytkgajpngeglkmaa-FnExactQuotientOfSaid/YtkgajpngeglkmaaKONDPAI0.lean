/- Printed proofs of functions of the program and of the reference, by a program of this work over the kit's printer. -/
import Derived.Test.YtkgajpngeglkmaaKHHICCB0
import Derived.Test.YtkgajpngeglkmaaKLBBOAD0
import Derived.Test.YtkgajpngeglkmaaKW0
namespace Go.Proofs.Ytkgajpngeglkmaa.B
open Go.RowKit Go.Proofs.YtkgajpngeglkmaaW.PrintWords Go.Proofs.YtkgajpngeglkmaaW.PrintLast Go.Proofs.YtkgajpngeglkmaaW.PrintMore
attribute [local go_sem] qAh qAf qAn qAm qAc qAb qAg qAe
set_option linter.unusedVariables false
set_option linter.unusedSimpArgs false
def z50.j0 : Nat → Bool → Int → Int → List (List Int) → Option (Bool)
 | 0, _, _, _, _ => none
 | k + 1, x44, x51000, x51001, x51002 => if x44 = true then (some false) else ((z87.f k x51000 x51001 x51002).bind fun t104 => ((z94.f k t104 x51002).bind fun t107 => (some t107)))
def z50.f (k : Nat) (a0_0 : Int) (a0_1 : Int) (l0_2 : List (List Int)) : Option (Bool) := (z63.f k a0_0).bind fun t101 => (if t101 = true then ((z65.f a0_1 0 32).bind fun t102 => (if t102 = true then (if (l0_2.length : Int) > a0_1 then (z50.j0 k true a0_0 a0_1 l0_2) else ((z93.f k a0_0 a0_1 l0_2).bind fun t103 => (z50.j0 k (!t103) a0_0 a0_1 l0_2))) else (z50.j0 k true a0_0 a0_1 l0_2))) else (z50.j0 k true a0_0 a0_1 l0_2))
def z50.T1 : Bool × List (List Nat × List Nat) := (true, [([], []), ([0], [0]), ([1], [1]), ([2], [2]), ([3], [3]), ([4], [4]), ([5, 4], [5]), ([6], [6]), ([7, 6], [6, 7]), ([8, 6], [6, 8]), ([9, 6], [6, 9]), ([10, 6, 6], [6, 10]), ([11, 6], [6, 11]), ([6, 12], [6, 12]), ([13, 11], [13]), ([14], [14]), ([15, 14], [14, 15]), ([16, 14], [14, 16]), ([17, 14], [14, 17]), ([18, 14], [14, 18]), ([14], [14]), ([20, 14], [14, 20]), ([21, 14], [14, 21]), ([22, 14], [14, 22]), ([19, 23, 14], [14, 19, 23]), ([14, 24], [14, 24]), ([25, 14], [25]), ([26], [26]), ([27, 26], [26, 27]), ([28, 26], [26, 28]), ([29, 26], [26, 29]), ([26], [26]), ([31, 26], [26, 31]), ([32, 26], [26, 32]), ([33, 26], [26, 33]), ([26], [26]), ([35, 26], [26, 35]), ([36, 26], [26, 36]), ([37, 26], [26, 37]), ([30, 34, 38, 26, 26], [26, 30, 34, 38]), ([39, 26], [26, 39]), ([26, 40], [26, 40])])
def z50.B1 : List Nat := [0, 1, 3, 7, 15, 31, 63, 127, 255, 511, 1023, 2047, 4095, 8191, 16383, 32767, 65535, 131071, 262143, 524287, 32767, 1081343, 3178495, 7372799, 16777215, 33554431, 67108863, 134217727, 268435455, 536870911, 1073741823, 134217727, 2281701375, 6576668671, 15166603263, 134217727, 34493956095, 103213432831, 240652386303, 549755813887, 1099511627775, 2199023255551]
theorem z50.tab1 : rtab .any (qCk Try.f50 1) = z50.T1 := by kernel_rfl
theorem z50.bits1 : qA9 z50.T1.2 z50.B1 = true := by kernel_rfl
def z50.T3 : Bool × List (List Nat × List Nat) := (true, [([], []), ([0], [0]), ([1], [1]), ([2], [2]), ([], []), ([4], [4]), ([5], [5]), ([6], [6]), ([], []), ([8], [8]), ([9], [9]), ([10], [10]), ([3, 7, 11], [3, 7, 11]), ([], []), ([13], [13]), ([14], [14]), ([15], [15]), ([12, 16, 12], [12, 16]), ([17, 17, 0, 1, 2, 3, 4, 5, 6, 7, 8, 9, 10, 11, 12, 13, 14, 15, 16, 17], [17])])
def z50.B3 : List Nat := [0, 1, 3, 7, 0, 16, 48, 112, 0, 256, 768, 1792, 4095, 0, 8192, 24576, 57344, 131071, 262143]
theorem z50.tab3 : rtab .any (qCk Try.f50 3) = z50.T3 := by kernel_rfl
theorem z50.bits3 : qA9 z50.T3.2 z50.B3 = true := by kernel_rfl
set_option maxHeartbeats 8000000 in
set_option maxRecDepth 100000 in
theorem z50.calls (k : Nat) (gp0 : Nat) (a0_0 : Int) (a0_1 : Int) (A0_2 : Option Addr) (c0_2 : Nat) (l0_2 : List (List Int)) (r : Bool) (w : World) (hbp0 : w.heap[gp0]? = some (.cells #[.int .i64 a0_0, .int .i64 a0_1, .slice A0_2 l0_2.length c0_2] 28 (0, 0))) (hr0_2 : Kd.C (Kd.slice 2 (Kd.int .i64)) w A0_2 l0_2.length l0_2) (hc0_2 : l0_2.length ≤ c0_2) (h : z50.f k a0_0 a0_1 l0_2 = some r) :
  Calls Try.prog 50 #[.pointer (some ⟨gp0, 0, none⟩)] w fun e w' => e = .returned (.bool r) ∧ Below w.heap.size w w' := by
 have HR0_2 := Zz.mk hr0_2
 have HC0_2 := Zz.mk hc0_2
 clear hr0_2 hc0_2
 have BK50 := Zz.mk hbp0
 clear hbp0
 have HB := Zz.mk (Below.refl w.heap.size w)
 have H : ((z63.f k a0_0).bind fun t101 => (if t101 = true then ((z65.f a0_1 0 32).bind fun t102 => (if t102 = true then (if (l0_2.length : Int) > a0_1 then (z50.j0 k true a0_0 a0_1 l0_2) else ((z93.f k a0_0 a0_1 l0_2).bind fun t103 => (z50.j0 k (!t103) a0_0 a0_1 l0_2))) else (z50.j0 k true a0_0 a0_1 l0_2))) else (z50.j0 k true a0_0 a0_1 l0_2))) = some r := h
 clear h
 have HC2 := Zz.mk H
 clear H
 go_enter Try.func50, Try.ntmps50
 go_upto_region 1 with (fail)
 go_cut [44] (fun v44 wc => ∃ (kq : Nat) (x44_1 : Bool), v44 = .bool x44_1 ∧ Zz (z50.j0 kq x44_1 a0_0 a0_1 l0_2 = some r) ∧ Zz (kq ≤ k) ∧ Zz (wc.heap[gp0]? = some (.cells #[.int .i64 a0_0, .int .i64 a0_1, (.slice A0_2 l0_2.length c0_2)] 28 (0, 0))) ∧ Zz (Below w.heap.size w wc))
 case first =>
  have H := HC2.out
  clear HC2
  replace H := OZ_ H
  obtain ⟨t101, A3, H⟩ := H
  by_cases c4 : t101 = true
  ·subst c4
   replace H := T_ H
   replace H := OZ_ H
   obtain ⟨t102, A5, H⟩ := H
   by_cases c6 : t102 = true
   ·subst c6
    replace H := T_ H
    by_cases c7 : (l0_2.length : Int) > a0_1
    ·rw [if_pos c7] at H
     have c7b0 : decide (a0_1 < (l0_2.length : Int)) = true := decide_eq_true c7
     clear c7
     (first | rw [c7b0] | (simp only [qBj, qBz]; rw [c7b0]) | skip)
     have H' := Zz.mk H
     clear H
     try go_wp2
     replace BK50 := Zz.mk (bD_ BK50.out)
     replace HB := Zz.mk (qAj HB.out)
     refine qBf (n := 42) (S := fun w' => w'.cell? ⟨gp0, 0, none⟩ = some (.int .i64 a0_0) ∧ w'.cell? ⟨gp0, 1, none⟩ = some (.int .i64 a0_1) ∧ w'.cell? ⟨gp0, 2, none⟩ = some (.slice A0_2 l0_2.length c0_2)) (ds := []) (tb_ 42 0) (by kernel_rfl) rfl rfl (Z3_ BK50.out) (fun hHeld => ?_); refine qAv z50.tab1 z50.bits1 (fun HT_ HW_ => ?_)
     generalize w.drew = w8 at BK50 HB hHeld ⊢
     refine PX_ 0 3 (tb_ 42 1) HT_ rfl rfl ?_
     refine PX_ 1 4 (tb_ 42 3) HT_ rfl rfl ?_
     refine PX_ 2 5 (tb_ 42 7) HT_ rfl rfl ?_
     refine TX_ 3 6 (tb_ 42 15) HT_ HW_ rfl rfl hHeld ?_
     refine one_ (i := 4) (N := some 7) (tb_ 42 31) rfl rfl (qAs HT_.out (by kernel_rfl)) (by decide) (fun K hK => ?_)
     refine GO_ Try.func63 #[.int .i64 a0_0] (h := ?_)
     with_reducible refine (z63.calls k a0_0 true _ A3.out).mono ?_
     rintro e w' ⟨rfl, ⟨nd, rfl⟩⟩
     refine ⟨_, rfl, ?_⟩
     refine hK.out _ _ (Z3_ BK50.out) (fun hHeld => ?_)
     clear hK K
     refine NM_ (N := (some 7)) (h := ?_)
     refine PX_ 5 8 (tb_ 42 63) HT_ rfl rfl ?_
     refine PX_ 6 9 (tb_ 42 127) HT_ rfl rfl ?_
     refine PX_ 7 10 (tb_ 42 255) HT_ rfl rfl ?_
     refine PX_ 8 11 (tb_ 42 511) HT_ rfl rfl ?_
     refine PX_ 9 12 (tb_ 42 1023) HT_ rfl rfl ?_
     refine TX_ 10 13 (tb_ 42 2047) HT_ HW_ rfl rfl hHeld ?_
     refine one_ (i := 11) (N := some 14) (tb_ 42 4095) rfl rfl (qAs HT_.out (by kernel_rfl)) (by decide) (fun K hK => ?_)
     refine GO_ Try.func65 #[.int .i64 a0_1, .int .i64 0, .int .i64 32] (h := ?_)
     with_reducible refine (z65.calls a0_1 0 32 true _ A5.out).mono ?_
     rintro e w' ⟨rfl, ⟨nd, rfl⟩⟩
     refine ⟨_, rfl, ?_⟩
     refine hK.out _ _ (Z3_ BK50.out) (fun hHeld => ?_)
     clear hK K
     refine NM_ (N := (some 14)) (h := ?_)
     refine PX_ 12 15 (tb_ 42 8191) HT_ rfl rfl ?_
     refine PX_ 13 16 (tb_ 42 16383) HT_ rfl rfl ?_
     refine PX_ 14 17 (tb_ 42 32767) HT_ rfl rfl ?_
     refine PX_ 15 18 (tb_ 42 65535) HT_ rfl rfl ?_
     refine PX_ 16 19 (tb_ 42 131071) HT_ rfl rfl ?_
     refine PX_ 17 20 (tb_ 42 262143) HT_ rfl rfl ?_
     refine PX_ 20 23 (tb_ 42 1310719) HT_ rfl rfl ?_
     refine PX_ 21 24 (tb_ 42 3407871) HT_ rfl rfl ?_
     refine PX_ 22 25 (tb_ 42 7602175) HT_ rfl rfl ?_
     refine TX_ 18 21 (tb_ 42 7864319) HT_ HW_ rfl rfl hHeld ?_
     refine PX_ 19 22 (tb_ 42 8388607) HT_ rfl rfl ?_
     refine TX_ 23 26 (tb_ 42 16777215) HT_ HW_ rfl rfl hHeld ?_
     refine PX_ 24 27 (tb_ 42 33554431) HT_ rfl rfl ?_
     refine PX_ 25 28 (tb_ 42 67108863) HT_ rfl rfl ?_
     refine PX_ 26 29 (tb_ 42 134217727) HT_ rfl rfl ?_
     refine PY_ 27 30 (tb_ 42 268435455) HT_ rfl rfl ?_
     refine PY_ 28 31 (tb_ 42 536870911) HT_ rfl rfl ?_
     refine PY_ 29 32 (tb_ 42 1073741823) HT_ rfl rfl ?_
     refine PY_ 30 33 (tb_ 42 2147483647) HT_ rfl rfl ?_
     refine PY_ 31 34 (tb_ 42 4294967295) HT_ rfl rfl ?_
     refine PY_ 32 35 (tb_ 42 8589934591) HT_ rfl rfl ?_
     refine PY_ 33 36 (tb_ 42 17179869183) HT_ rfl rfl ?_
     refine PY_ 34 37 (tb_ 42 34359738367) HT_ rfl rfl ?_
     refine PY_ 35 38 (tb_ 42 68719476735) HT_ rfl rfl ?_
     refine PY_ 36 39 (tb_ 42 137438953471) HT_ rfl rfl ?_
     refine PY_ 37 40 (tb_ 42 274877906943) HT_ rfl rfl ?_
     refine PY_ 38 41 (tb_ 42 549755813887) HT_ rfl rfl ?_
     refine PY_ 39 42 (tb_ 42 1099511627775) HT_ rfl rfl ?_
     refine PY_ 40 43 (tb_ 42 2199023255551) HT_ rfl rfl ?_
     refine PX_ 41 44 (tb_ 42 4398046511103) HT_ rfl rfl ?_
     refine qB0 (qA4 HT_.out (by kernel_rfl)) ?_
     try go_wp2
     go_meet
     case rel => exact ⟨_, (true), E_, H', ⟨by first | omega | exact Nat.le_refl _⟩, ⟨KB_ BK50.out⟩, ⟨B_ HB.out⟩⟩
    rw [if_neg c7] at H
    have c7b0 : decide (a0_1 < (l0_2.length : Int)) = false := decide_eq_false c7
    clear c7
    (first | rw [c7b0] | (simp only [qBj, qBz]; rw [c7b0]) | skip)
    replace H := OZ_ H
    obtain ⟨t103, A9, H⟩ := H
    have H' := Zz.mk H
    clear H
    try go_wp2
    replace BK50 := Zz.mk (bD_ BK50.out)
    replace HB := Zz.mk (qAj HB.out)
    refine qBf (n := 42) (S := fun w' => w'.cell? ⟨gp0, 0, none⟩ = some (.int .i64 a0_0) ∧ w'.cell? ⟨gp0, 1, none⟩ = some (.int .i64 a0_1) ∧ w'.cell? ⟨gp0, 2, none⟩ = some (.slice A0_2 l0_2.length c0_2)) (ds := []) (tb_ 42 0) (by kernel_rfl) rfl rfl (Z3_ BK50.out) (fun hHeld => ?_); refine qAv z50.tab1 z50.bits1 (fun HT_ HW_ => ?_)
    generalize w.drew = w10 at BK50 HB hHeld ⊢
    refine PX_ 0 3 (tb_ 42 1) HT_ rfl rfl ?_
    refine PX_ 1 4 (tb_ 42 3) HT_ rfl rfl ?_
    refine PX_ 2 5 (tb_ 42 7) HT_ rfl rfl ?_
    refine TX_ 3 6 (tb_ 42 15) HT_ HW_ rfl rfl hHeld ?_
    refine one_ (i := 4) (N := some 7) (tb_ 42 31) rfl rfl (qAs HT_.out (by kernel_rfl)) (by decide) (fun K hK => ?_)
    refine GO_ Try.func63 #[.int .i64 a0_0] (h := ?_)
    with_reducible refine (z63.calls k a0_0 true _ A3.out).mono ?_
    rintro e w' ⟨rfl, ⟨nd, rfl⟩⟩
    refine ⟨_, rfl, ?_⟩
    refine hK.out _ _ (Z3_ BK50.out) (fun hHeld => ?_)
    clear hK K
    refine NM_ (N := (some 7)) (h := ?_)
    refine PX_ 5 8 (tb_ 42 63) HT_ rfl rfl ?_
    refine PX_ 6 9 (tb_ 42 127) HT_ rfl rfl ?_
    refine PX_ 7 10 (tb_ 42 255) HT_ rfl rfl ?_
    refine PX_ 8 11 (tb_ 42 511) HT_ rfl rfl ?_
    refine PX_ 9 12 (tb_ 42 1023) HT_ rfl rfl ?_
    refine TX_ 10 13 (tb_ 42 2047) HT_ HW_ rfl rfl hHeld ?_
    refine one_ (i := 11) (N := some 14) (tb_ 42 4095) rfl rfl (qAs HT_.out (by kernel_rfl)) (by decide) (fun K hK => ?_)
    refine GO_ Try.func65 #[.int .i64 a0_1, .int .i64 0, .int .i64 32] (h := ?_)
    with_reducible refine (z65.calls a0_1 0 32 true _ A5.out).mono ?_
    rintro e w' ⟨rfl, ⟨nd, rfl⟩⟩
    refine ⟨_, rfl, ?_⟩
    refine hK.out _ _ (Z3_ BK50.out) (fun hHeld => ?_)
    clear hK K
    refine NM_ (N := (some 14)) (h := ?_)
    refine PX_ 12 15 (tb_ 42 8191) HT_ rfl rfl ?_
    refine PX_ 13 16 (tb_ 42 16383) HT_ rfl rfl ?_
    refine PX_ 14 17 (tb_ 42 32767) HT_ rfl rfl ?_
    refine PX_ 15 18 (tb_ 42 65535) HT_ rfl rfl ?_
    refine PX_ 16 19 (tb_ 42 131071) HT_ rfl rfl ?_
    refine PX_ 17 20 (tb_ 42 262143) HT_ rfl rfl ?_
    refine PX_ 20 23 (tb_ 42 1310719) HT_ rfl rfl ?_
    refine PX_ 21 24 (tb_ 42 3407871) HT_ rfl rfl ?_
    refine PX_ 22 25 (tb_ 42 7602175) HT_ rfl rfl ?_
    refine TX_ 18 21 (tb_ 42 7864319) HT_ HW_ rfl rfl hHeld ?_
    refine PX_ 19 22 (tb_ 42 8388607) HT_ rfl rfl ?_
    refine TX_ 23 26 (tb_ 42 16777215) HT_ HW_ rfl rfl hHeld ?_
    refine PX_ 24 27 (tb_ 42 33554431) HT_ rfl rfl ?_
    refine PX_ 25 28 (tb_ 42 67108863) HT_ rfl rfl ?_
    refine PX_ 26 29 (tb_ 42 134217727) HT_ rfl rfl ?_
    refine PX_ 27 30 (tb_ 42 268435455) HT_ rfl rfl ?_
    refine PX_ 28 31 (tb_ 42 536870911) HT_ rfl rfl ?_
    refine PX_ 29 32 (tb_ 42 1073741823) HT_ rfl rfl ?_
    refine PX_ 31 34 (tb_ 42 3221225471) HT_ rfl rfl ?_
    refine PX_ 32 35 (tb_ 42 7516192767) HT_ rfl rfl ?_
    refine PX_ 33 36 (tb_ 42 16106127359) HT_ rfl rfl ?_
    refine PX_ 35 38 (tb_ 42 50465865727) HT_ rfl rfl ?_
    refine PX_ 36 39 (tb_ 42 119185342463) HT_ rfl rfl ?_
    refine PX_ 37 40 (tb_ 42 256624295935) HT_ rfl rfl ?_
    refine TX_ 30 33 (tb_ 42 257698037759) HT_ HW_ rfl rfl hHeld ?_
    refine TX_ 34 37 (tb_ 42 274877906943) HT_ HW_ rfl rfl hHeld ?_
    refine TX_ 38 41 (tb_ 42 549755813887) HT_ HW_ rfl rfl hHeld ?_
    refine one_ (i := 39) (N := some 42) (tb_ 42 1099511627775) rfl rfl (qAs HT_.out (by kernel_rfl)) (by decide) (fun K hK => ?_)
    refine GO_ Try.func93 #[.int .i64 a0_0, .int .i64 a0_1, .slice A0_2 l0_2.length c0_2] (h := ?_)
    with_reducible refine (z93.calls k a0_0 a0_1 _ _ l0_2 t103 _ ?side1 ?side2 A9.out).mono ?_
    (case side1 => repeat (first | exact (Kd.C_below HR0_2.out (B_ HB.out)) | (with_reducible refine Kd.C_alloc ?_ _) | (with_reducible refine Kd.C_drewN ?_ _) | (with_reducible refine Kd.C_drew ?_)))
    (case side2 => exact HC0_2.out)
    rintro e w' ⟨rfl, ⟨nd, rfl⟩⟩
    refine ⟨_, rfl, ?_⟩
    refine hK.out _ _ (Z3_ BK50.out) (fun hHeld => ?_)
    clear hK K
    refine NM_ (N := (some 42)) (h := ?_)
    refine PX_ 40 43 (tb_ 42 2199023255551) HT_ rfl rfl ?_
    refine PX_ 41 44 (tb_ 42 4398046511103) HT_ rfl rfl ?_
    refine qB0 (qA4 HT_.out (by kernel_rfl)) ?_
    try go_wp2
    go_meet
    case rel => exact ⟨_, (!t103), E_, H', ⟨by first | omega | exact Nat.le_refl _⟩, ⟨KB_ BK50.out⟩, ⟨B_ HB.out⟩⟩
   replace c6 := Bool.eq_false_iff.mpr c6
   subst c6
   replace H := N_ H
   have H' := Zz.mk H
   clear H
   try go_wp2
   replace BK50 := Zz.mk (bD_ BK50.out)
   replace HB := Zz.mk (qAj HB.out)
   refine qBf (n := 42) (S := fun w' => w'.cell? ⟨gp0, 0, none⟩ = some (.int .i64 a0_0) ∧ w'.cell? ⟨gp0, 1, none⟩ = some (.int .i64 a0_1) ∧ w'.cell? ⟨gp0, 2, none⟩ = some (.slice A0_2 l0_2.length c0_2)) (ds := []) (tb_ 42 0) (by kernel_rfl) rfl rfl (Z3_ BK50.out) (fun hHeld => ?_); refine qAv z50.tab1 z50.bits1 (fun HT_ HW_ => ?_)
   generalize w.drew = w11 at BK50 HB hHeld ⊢
   refine PX_ 0 3 (tb_ 42 1) HT_ rfl rfl ?_
   refine PX_ 1 4 (tb_ 42 3) HT_ rfl rfl ?_
   refine PX_ 2 5 (tb_ 42 7) HT_ rfl rfl ?_
   refine TX_ 3 6 (tb_ 42 15) HT_ HW_ rfl rfl hHeld ?_
   refine one_ (i := 4) (N := some 7) (tb_ 42 31) rfl rfl (qAs HT_.out (by kernel_rfl)) (by decide) (fun K hK => ?_)
   refine GO_ Try.func63 #[.int .i64 a0_0] (h := ?_)
   with_reducible refine (z63.calls k a0_0 true _ A3.out).mono ?_
   rintro e w' ⟨rfl, ⟨nd, rfl⟩⟩
   refine ⟨_, rfl, ?_⟩
   refine hK.out _ _ (Z3_ BK50.out) (fun hHeld => ?_)
   clear hK K
   refine NM_ (N := (some 7)) (h := ?_)
   refine PX_ 5 8 (tb_ 42 63) HT_ rfl rfl ?_
   refine PX_ 6 9 (tb_ 42 127) HT_ rfl rfl ?_
   refine PX_ 7 10 (tb_ 42 255) HT_ rfl rfl ?_
   refine PX_ 8 11 (tb_ 42 511) HT_ rfl rfl ?_
   refine PX_ 9 12 (tb_ 42 1023) HT_ rfl rfl ?_
   refine TX_ 10 13 (tb_ 42 2047) HT_ HW_ rfl rfl hHeld ?_
   refine one_ (i := 11) (N := some 14) (tb_ 42 4095) rfl rfl (qAs HT_.out (by kernel_rfl)) (by decide) (fun K hK => ?_)
   refine GO_ Try.func65 #[.int .i64 a0_1, .int .i64 0, .int .i64 32] (h := ?_)
   with_reducible refine (z65.calls a0_1 0 32 false _ A5.out).mono ?_
   rintro e w' ⟨rfl, ⟨nd, rfl⟩⟩
   refine ⟨_, rfl, ?_⟩
   refine hK.out _ _ (Z3_ BK50.out) (fun hHeld => ?_)
   clear hK K
   refine NM_ (N := (some 14)) (h := ?_)
   refine PX_ 12 15 (tb_ 42 8191) HT_ rfl rfl ?_
   refine PX_ 13 16 (tb_ 42 16383) HT_ rfl rfl ?_
   refine PX_ 14 17 (tb_ 42 32767) HT_ rfl rfl ?_
   refine PY_ 15 18 (tb_ 42 65535) HT_ rfl rfl ?_
   refine PY_ 16 19 (tb_ 42 131071) HT_ rfl rfl ?_
   refine PY_ 17 20 (tb_ 42 262143) HT_ rfl rfl ?_
   refine PY_ 18 21 (tb_ 42 524287) HT_ rfl rfl ?_
   refine PY_ 19 22 (tb_ 42 1048575) HT_ rfl rfl ?_
   refine PY_ 20 23 (tb_ 42 2097151) HT_ rfl rfl ?_
   refine PY_ 21 24 (tb_ 42 4194303) HT_ rfl rfl ?_
   refine PY_ 22 25 (tb_ 42 8388607) HT_ rfl rfl ?_
   refine PY_ 23 26 (tb_ 42 16777215) HT_ rfl rfl ?_
   refine PY_ 24 27 (tb_ 42 33554431) HT_ rfl rfl ?_
   refine PX_ 25 28 (tb_ 42 67108863) HT_ rfl rfl ?_
   refine PX_ 26 29 (tb_ 42 134217727) HT_ rfl rfl ?_
   refine PY_ 27 30 (tb_ 42 268435455) HT_ rfl rfl ?_
   refine PY_ 28 31 (tb_ 42 536870911) HT_ rfl rfl ?_
   refine PY_ 29 32 (tb_ 42 1073741823) HT_ rfl rfl ?_
   refine PY_ 30 33 (tb_ 42 2147483647) HT_ rfl rfl ?_
   refine PY_ 31 34 (tb_ 42 4294967295) HT_ rfl rfl ?_
   refine PY_ 32 35 (tb_ 42 8589934591) HT_ rfl rfl ?_
   refine PY_ 33 36 (tb_ 42 17179869183) HT_ rfl rfl ?_
   refine PY_ 34 37 (tb_ 42 34359738367) HT_ rfl rfl ?_
   refine PY_ 35 38 (tb_ 42 68719476735) HT_ rfl rfl ?_
   refine PY_ 36 39 (tb_ 42 137438953471) HT_ rfl rfl ?_
   refine PY_ 37 40 (tb_ 42 274877906943) HT_ rfl rfl ?_
   refine PY_ 38 41 (tb_ 42 549755813887) HT_ rfl rfl ?_
   refine PY_ 39 42 (tb_ 42 1099511627775) HT_ rfl rfl ?_
   refine PY_ 40 43 (tb_ 42 2199023255551) HT_ rfl rfl ?_
   refine PX_ 41 44 (tb_ 42 4398046511103) HT_ rfl rfl ?_
   refine qB0 (qA4 HT_.out (by kernel_rfl)) ?_
   try go_wp2
   go_meet
   case rel => exact ⟨_, (true), E_, H', ⟨by first | omega | exact Nat.le_refl _⟩, ⟨KB_ BK50.out⟩, ⟨B_ HB.out⟩⟩
  replace c4 := Bool.eq_false_iff.mpr c4
  subst c4
  replace H := N_ H
  have H' := Zz.mk H
  clear H
  try go_wp2
  replace BK50 := Zz.mk (bD_ BK50.out)
  replace HB := Zz.mk (qAj HB.out)
  refine qBf (n := 42) (S := fun w' => w'.cell? ⟨gp0, 0, none⟩ = some (.int .i64 a0_0) ∧ w'.cell? ⟨gp0, 1, none⟩ = some (.int .i64 a0_1) ∧ w'.cell? ⟨gp0, 2, none⟩ = some (.slice A0_2 l0_2.length c0_2)) (ds := []) (tb_ 42 0) (by kernel_rfl) rfl rfl (Z3_ BK50.out) (fun hHeld => ?_); refine qAv z50.tab1 z50.bits1 (fun HT_ HW_ => ?_)
  generalize w.drew = w12 at BK50 HB hHeld ⊢
  refine PX_ 0 3 (tb_ 42 1) HT_ rfl rfl ?_
  refine PX_ 1 4 (tb_ 42 3) HT_ rfl rfl ?_
  refine PX_ 2 5 (tb_ 42 7) HT_ rfl rfl ?_
  refine TX_ 3 6 (tb_ 42 15) HT_ HW_ rfl rfl hHeld ?_
  refine one_ (i := 4) (N := some 7) (tb_ 42 31) rfl rfl (qAs HT_.out (by kernel_rfl)) (by decide) (fun K hK => ?_)
  refine GO_ Try.func63 #[.int .i64 a0_0] (h := ?_)
  with_reducible refine (z63.calls k a0_0 false _ A3.out).mono ?_
  rintro e w' ⟨rfl, ⟨nd, rfl⟩⟩
  refine ⟨_, rfl, ?_⟩
  refine hK.out _ _ (Z3_ BK50.out) (fun hHeld => ?_)
  clear hK K
  refine NM_ (N := (some 7)) (h := ?_)
  refine PX_ 5 8 (tb_ 42 63) HT_ rfl rfl ?_
  refine PX_ 6 9 (tb_ 42 127) HT_ rfl rfl ?_
  refine PY_ 7 10 (tb_ 42 255) HT_ rfl rfl ?_
  refine PY_ 8 11 (tb_ 42 511) HT_ rfl rfl ?_
  refine PY_ 9 12 (tb_ 42 1023) HT_ rfl rfl ?_
  refine PY_ 10 13 (tb_ 42 2047) HT_ rfl rfl ?_
  refine PY_ 11 14 (tb_ 42 4095) HT_ rfl rfl ?_
  refine PY_ 12 15 (tb_ 42 8191) HT_ rfl rfl ?_
  refine PX_ 13 16 (tb_ 42 16383) HT_ rfl rfl ?_
  refine PX_ 14 17 (tb_ 42 32767) HT_ rfl rfl ?_
  refine PY_ 15 18 (tb_ 42 65535) HT_ rfl rfl ?_
  refine PY_ 16 19 (tb_ 42 131071) HT_ rfl rfl ?_
  refine PY_ 17 20 (tb_ 42 262143) HT_ rfl rfl ?_
  refine PY_ 18 21 (tb_ 42 524287) HT_ rfl rfl ?_
  refine PY_ 19 22 (tb_ 42 1048575) HT_ rfl rfl ?_
  refine PY_ 20 23 (tb_ 42 2097151) HT_ rfl rfl ?_
  refine PY_ 21 24 (tb_ 42 4194303) HT_ rfl rfl ?_
  refine PY_ 22 25 (tb_ 42 8388607) HT_ rfl rfl ?_
  refine PY_ 23 26 (tb_ 42 16777215) HT_ rfl rfl ?_
  refine PY_ 24 27 (tb_ 42 33554431) HT_ rfl rfl ?_
  refine PX_ 25 28 (tb_ 42 67108863) HT_ rfl rfl ?_
  refine PX_ 26 29 (tb_ 42 134217727) HT_ rfl rfl ?_
  refine PY_ 27 30 (tb_ 42 268435455) HT_ rfl rfl ?_
  refine PY_ 28 31 (tb_ 42 536870911) HT_ rfl rfl ?_
  refine PY_ 29 32 (tb_ 42 1073741823) HT_ rfl rfl ?_
  refine PY_ 30 33 (tb_ 42 2147483647) HT_ rfl rfl ?_
  refine PY_ 31 34 (tb_ 42 4294967295) HT_ rfl rfl ?_
  refine PY_ 32 35 (tb_ 42 8589934591) HT_ rfl rfl ?_
  refine PY_ 33 36 (tb_ 42 17179869183) HT_ rfl rfl ?_
  refine PY_ 34 37 (tb_ 42 34359738367) HT_ rfl rfl ?_
  refine PY_ 35 38 (tb_ 42 68719476735) HT_ rfl rfl ?_
  refine PY_ 36 39 (tb_ 42 137438953471) HT_ rfl rfl ?_
  refine PY_ 37 40 (tb_ 42 274877906943) HT_ rfl rfl ?_
  refine PY_ 38 41 (tb_ 42 549755813887) HT_ rfl rfl ?_
  refine PY_ 39 42 (tb_ 42 1099511627775) HT_ rfl rfl ?_
  refine PY_ 40 43 (tb_ 42 2199023255551) HT_ rfl rfl ?_
  refine PX_ 41 44 (tb_ 42 4398046511103) HT_ rfl rfl ?_
  refine qB0 (qA4 HT_.out (by kernel_rfl)) ?_
  try go_wp2
  go_meet
  case rel => exact ⟨_, (true), E_, H', ⟨by first | omega | exact Nat.le_refl _⟩, ⟨KB_ BK50.out⟩, ⟨B_ HB.out⟩⟩
 case rest =>
  clear HC2
  obtain ⟨kq, x44_1, rfl, HA, HJ1, BK50, HB⟩ := hcut
  cases kq with
  | zero => exact absurd HA.out (by simp [z50.j0])
  | succ kj1 =>
   have H := HA.out
   clear HA
   simp only [z50.j0] at H
   by_cases c13 : x44_1 = true
   ·subst c13
    replace H := T_ H
    obtain rfl := OI_ H
    go_wp2
    go_ret
    exact ⟨F_, B_ HB.out⟩
   replace c13 := Bool.eq_false_iff.mpr c13
   subst c13
   replace H := N_ H
   replace H := OZ_ H
   obtain ⟨t104, A14, H⟩ := H
   replace H := OZ_ H
   obtain ⟨t107, A15, H⟩ := H
   obtain rfl := OI_ H
   try go_wp2
   replace BK50 := Zz.mk (bD_ BK50.out)
   replace HB := Zz.mk (qAj HB.out)
   refine qBf (n := 19) (S := fun w' => w'.cell? ⟨gp0, 0, none⟩ = some (.int .i64 a0_0) ∧ w'.cell? ⟨gp0, 1, none⟩ = some (.int .i64 a0_1) ∧ w'.cell? ⟨gp0, 2, none⟩ = some (.slice A0_2 l0_2.length c0_2)) (ds := []) (tb_ 19 0) (by kernel_rfl) rfl rfl (Z3_ BK50.out) (fun hHeld => ?_); refine qAv z50.tab3 z50.bits3 (fun HT_ HW_ => ?_)
   generalize wc.drew = w16 at BK50 HB hHeld ⊢
   refine PX_ 0 45 (tb_ 19 1) HT_ rfl rfl ?_
   refine PX_ 1 46 (tb_ 19 3) HT_ rfl rfl ?_
   refine PX_ 2 47 (tb_ 19 7) HT_ rfl rfl ?_
   refine PX_ 4 49 (tb_ 19 23) HT_ rfl rfl ?_
   refine PX_ 5 50 (tb_ 19 55) HT_ rfl rfl ?_
   refine PX_ 6 51 (tb_ 19 119) HT_ rfl rfl ?_
   refine PX_ 8 53 (tb_ 19 375) HT_ rfl rfl ?_
   refine PX_ 9 54 (tb_ 19 887) HT_ rfl rfl ?_
   refine PX_ 10 55 (tb_ 19 1911) HT_ rfl rfl ?_
   refine PX_ 13 58 (tb_ 19 10103) HT_ rfl rfl ?_
   refine PX_ 14 59 (tb_ 19 26487) HT_ rfl rfl ?_
   refine PX_ 15 60 (tb_ 19 59255) HT_ rfl rfl ?_
   refine TX_ 3 48 (tb_ 19 59263) HT_ HW_ rfl rfl hHeld ?_
   refine TX_ 7 52 (tb_ 19 59391) HT_ HW_ rfl rfl hHeld ?_
   refine TX_ 11 56 (tb_ 19 61439) HT_ HW_ rfl rfl hHeld ?_
   refine TX_ 16 61 (tb_ 19 126975) HT_ HW_ rfl rfl hHeld ?_
   refine one_ (i := 12) (N := some 57) (tb_ 19 131071) rfl rfl (qAs HT_.out (by kernel_rfl)) (by decide) (fun K hK => ?_)
   refine GO_ Try.func87 #[.int .i64 a0_0, .int .i64 a0_1, .slice A0_2 l0_2.length c0_2] (h := ?_)
   with_reducible refine (z87.calls kj1 a0_0 a0_1 _ _ l0_2 t104 _ ?side1 ?side2 A14.out).mono ?_
   (case side1 => exact KC_ (Kd.C_below HR0_2.out HB.out))
   (case side2 => exact HC0_2.out)
   rintro e w17 ⟨v105, rfl, ho0, hb⟩
   refine ⟨_, rfl, ?_⟩
   have HO106 := Zz.mk (Kd.S_lower ho0 (bS_ (B_ HB.out)))
   replace BK50 := Zz.mk (kb_ BK50.out hb)
   replace HB := Zz.mk (bT_ (B_ HB.out) hb)
   (try clear hb);(try clear ho0)
   obtain ⟨Ao18, co18, eo18⟩ := Kd.S_slice HO106.out
   (first | subst eo18 | obtain ⟨rfl, rfl⟩ := sl_ eo18)
   refine hK.out _ _ (Z3_ BK50.out) (fun hHeld => ?_)
   clear hK K
   refine NM_ (N := (some 57)) (h := ?_)
   refine one_ (i := 17) (N := some 62) (tb_ 19 262143) rfl rfl (qAs HT_.out (by kernel_rfl)) (by decide) (fun K hK => ?_)
   refine GO_ Try.func94 #[.slice Ao18 t104.length co18, .slice A0_2 l0_2.length c0_2] (h := ?_)
   with_reducible refine (z94.calls kj1 _ _ t104 _ _ l0_2 t107 _ ?side1 ?side2 ?side3 ?side4 A15.out).mono ?_
   (case side1 => exact KC_ (Kd.S_reads' HO106.out).2.2)
   (case side2 => exact (Kd.S_reads' HO106.out).2.1)
   (case side3 => exact KC_ (Kd.C_below HR0_2.out HB.out))
   (case side4 => exact HC0_2.out)
   rintro e w' ⟨rfl, ⟨nd, rfl⟩⟩
   refine ⟨_, rfl, ?_⟩
   refine hK.out _ _ (Z3_ BK50.out) (fun hHeld => ?_)
   clear hK K
   refine NM_ (N := (some 62)) (h := ?_)
   refine PX_ 18 2 (tb_ 19 524287) HT_ rfl rfl ?_
   refine qB0 (qA4 HT_.out (by kernel_rfl)) ?_
   try go_wp2
   go_ret
   exact ⟨F_, B_ HB.out⟩
end Go.Proofs.Ytkgajpngeglkmaa.B
