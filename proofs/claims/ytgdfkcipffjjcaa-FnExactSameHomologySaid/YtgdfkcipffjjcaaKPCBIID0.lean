/- Printed proofs of functions of the program and of the reference, by a program of this work over the kit's printer. -/
import Derived.Test.YtgdfkcipffjjcaaKFCAEAO0
import Derived.Test.YtgdfkcipffjjcaaKLEMDPK0
import Derived.Test.YtgdfkcipffjjcaaKW0
namespace Go.Proofs.Ytgdfkcipffjjcaa.B
open Go.RowKit Go.Proofs.YtgdfkcipffjjcaaW.PrintWords Go.Proofs.YtgdfkcipffjjcaaW.PrintLast Go.Proofs.YtgdfkcipffjjcaaW.PrintMore
attribute [local go_sem] qAh qAf qAl qAk qAc qAb qAg qAe
set_option linter.unusedVariables false
set_option linter.unusedSimpArgs false
def z8.j0 : Nat → Int → Int → List Int → List Int → Bool → List (List Int) → Option (Bool)
 | 0, _, _, _, _, _, _ => none
 | k + 1, x1, x2, x3, x4, x42, x102000 => if x42 = true then (some false) else ((z20.f k x3 x4 (wrap64 (x2 - 1)) x2).bind fun t106 => ((z19.f k x102000 x1 x2 t106).bind fun bt109 => (some bt109.2)))
def z8.f (k : Nat) (l0_0 : List (List Int)) (a1 : Int) (a2 : Int) (l3 : List Int) (l4 : List Int) : Option (Bool) := (z17.f k l0_0 a1 a2 l3).bind fun t102 => (if t102 = 0 then ((z17.f k l0_0 a1 a2 l4).bind fun t103 => (if t103 = 0 then ((z18.f k l0_0 a1 a2 l3).bind fun t104 => (if t104 = true then ((z18.f k l0_0 a1 a2 l4).bind fun t105 => (z8.j0 k a1 a2 l3 l4 (!t105) l0_0)) else (z8.j0 k a1 a2 l3 l4 true l0_0))) else (z8.j0 k a1 a2 l3 l4 true l0_0))) else (z8.j0 k a1 a2 l3 l4 true l0_0))
def z8.T3 : Bool × List (List Nat × List Nat) := (true, [([], []), ([], []), ([], []), ([], []), ([], []), ([], []), ([5], [5]), ([], []), ([3, 4, 6, 7], [3, 4, 6, 7]), ([0, 1, 2, 8, 8], [0, 1, 2, 8]), ([9], [9]), ([10], [10]), ([10], [10]), ([11, 9, 0, 1, 2, 3, 4, 5, 6, 7, 8, 9, 10, 11], [11]), ([12, 13, 0, 1, 2, 3, 4, 5, 6, 7, 8, 9, 10, 11, 12, 13], [12])])
def z8.B3 : List Nat := [0, 0, 0, 0, 0, 0, 32, 0, 248, 511, 1023, 2047, 2047, 4095, 16383]
theorem z8.tab3 : rtab .any (qB2 Try.f8 3) = z8.T3 := by kernel_rfl
theorem z8.bits3 : qA7 z8.T3.2 z8.B3 = true := by kernel_rfl
set_option maxHeartbeats 8000000 in
set_option maxRecDepth 100000 in
theorem z8.calls (k : Nat) (A0_0 : Option Addr) (c0_0 : Nat) (l0_0 : List (List Int)) (a1 : Int) (a2 : Int) (A3 : Option Addr) (c3 : Nat) (l3 : List Int) (A4 : Option Addr) (c4 : Nat) (l4 : List Int) (r : Bool) (w : World) (hr0_0 : Kd.C (Kd.slice 2 (Kd.int .i64)) w A0_0 l0_0.length l0_0) (hc0_0 : l0_0.length ≤ c0_0) (hr3 : Kd.C (Kd.int .i64) w A3 l3.length l3) (hc3 : l3.length ≤ c3) (hr4 : Kd.C (Kd.int .i64) w A4 l4.length l4) (hc4 : l4.length ≤ c4) (h : z8.f k l0_0 a1 a2 l3 l4 = some r) :
  Calls Try.prog 8 #[.agg #[.slice A0_0 l0_0.length c0_0], .int .i64 a1, .int .i64 a2, .slice A3 l3.length c3, .slice A4 l4.length c4] w fun e w' => e = .returned (.bool r) ∧ Below w.heap.size w w' := by
 have hu28 := Try.underlying28
 have HR0_0 := Zz.mk hr0_0
 have HC0_0 := Zz.mk hc0_0
 clear hr0_0 hc0_0
 have HR3 := Zz.mk hr3
 have HC3 := Zz.mk hc3
 clear hr3 hc3
 have HR4 := Zz.mk hr4
 have HC4 := Zz.mk hc4
 clear hr4 hc4
 have HB := Zz.mk (Below.refl w.heap.size w)
 have H : ((z17.f k l0_0 a1 a2 l3).bind fun t102 => (if t102 = 0 then ((z17.f k l0_0 a1 a2 l4).bind fun t103 => (if t103 = 0 then ((z18.f k l0_0 a1 a2 l3).bind fun t104 => (if t104 = true then ((z18.f k l0_0 a1 a2 l4).bind fun t105 => (z8.j0 k a1 a2 l3 l4 (!t105) l0_0)) else (z8.j0 k a1 a2 l3 l4 true l0_0))) else (z8.j0 k a1 a2 l3 l4 true l0_0))) else (z8.j0 k a1 a2 l3 l4 true l0_0))) = some r := h
 clear h
 have HC6 := Zz.mk H
 clear H
 go_enter Try.func8, Try.ntmps8
 go_upto_region 1 with (first | ((with_reducible refine qAm (N := 5) rfl ?_); refine qAo ?hg (N := 5) ?hd (cs := #[.slice A0_0 l0_0.length c0_0]) (t := 28) ?hr ?_; (case hd => rfl); (case hg => rfl); (case hr => first | (go_simp; done) | (go_simp; rfl)); intro gb101 hg w7 hbox hb; have BK101 := Zz.mk (hbox); have GW101 := Zz.mk ((by rw [hg]; exact (bS_ (B_ HB.out)) : w.heap.size ≤ gb101)); have GE101 := GW101; replace HB := Zz.mk (bT_ (B_ HB.out) hb); clear hb hbox hg))
 (try simp only [Act.put, List.setIfInBounds_toArray, List.set_cons_zero, List.set_cons_succ])
 go_cut [42] (fun v42 wc => ∃ (kq : Nat) (x42_5 : Bool), v42 = .bool x42_5 ∧ Zz (z8.j0 kq a1 a2 l3 l4 x42_5 l0_0 = some r) ∧ Zz (kq ≤ k) ∧ Zz (wc.heap[gb101]? = some (.cells #[(.slice A0_0 l0_0.length c0_0)] 28 (0, 0))) ∧ Zz (Below w.heap.size w wc))
 case first =>
  have H := HC6.out
  clear HC6
  replace H := OZ_ H
  obtain ⟨t102, A8, H⟩ := H
  by_cases c9 : t102 = 0
  ·rw [if_pos c9] at H
   have c9b0 : (t102 == 0) = true := beq_iff_eq.mpr c9
   have c9b1 : (t102 != 0) = false := bne_eq_false_iff_eq.mpr c9
   clear c9
   (first | rw [c9b0] | (simp only [qA6, qBm]; rw [c9b0]) | skip)
   replace H := OZ_ H
   obtain ⟨t103, A10, H⟩ := H
   by_cases c11 : t103 = 0
   ·rw [if_pos c11] at H
    have c11b0 : (t103 == 0) = true := beq_iff_eq.mpr c11
    have c11b1 : (t103 != 0) = false := bne_eq_false_iff_eq.mpr c11
    clear c11
    replace H := OZ_ H
    obtain ⟨t104, A12, H⟩ := H
    by_cases c13 : t104 = true
    ·subst c13
     replace H := T_ H
     replace H := OZ_ H
     obtain ⟨t105, A14, H⟩ := H
     have H' := Zz.mk H
     clear H
     obtain ⟨hcz15_0, hfz15_0⟩ := Z1f_ BK101.out
     go_wp2_with (first | ((with_reducible refine gC_ (f := 17) rfl ?_); refine GL_ (some 17) rfl rfl Try.func17 #[.agg #[.slice A0_0 l0_0.length c0_0], .int .i64 a1, .int .i64 a2, .slice A3 l3.length c3] rfl (h := ?_); (with_reducible refine (z17.calls k _ _ l0_0 a1 a2 _ _ l3 t102 _ ?side1 ?side2 ?side3 ?side4 A8.out).mono ?_); (case side1 => exact KC_ (Kd.C_below HR0_0.out HB.out)); (case side2 => exact HC0_0.out); (case side3 => exact KC_ (Kd.C_below HR3.out HB.out)); (case side4 => exact HC3.out); rintro e w16 ⟨rfl, hb⟩; refine ⟨_, rfl, ?_⟩; replace BK101 := Zz.mk (bB_ (g := gb101) (o := .cells #[.slice A0_0 l0_0.length c0_0] 28 (0, 0)) (KB_ BK101.out) hb); replace HB := Zz.mk (bT_ (B1_ HB.out GE101.out) hb); (try clear hb); (try clear hb2); (try clear hk); (try clear hi); obtain ⟨hcz17_0, hfz17_0⟩ := Z1f_ BK101.out) | (go_at_call 17; (with_reducible refine (z17.calls k _ _ l0_0 a1 a2 _ _ l4 t103 _ ?side1 ?side2 ?side3 ?side4 A10.out).mono ?_); (case side1 => exact KC_ (Kd.C_below HR0_0.out HB.out)); (case side2 => exact HC0_0.out); (case side3 => exact KC_ (Kd.C_below HR4.out HB.out)); (case side4 => exact HC4.out); rintro e w18 ⟨rfl, hb⟩; replace BK101 := Zz.mk (bB_ (g := gb101) (o := .cells #[.slice A0_0 l0_0.length c0_0] 28 (0, 0)) (KB_ BK101.out) hb); replace HB := Zz.mk (bT_ (B1_ HB.out GE101.out) hb); (try clear hb); (try clear hb2); (try clear hk); (try clear hi); obtain ⟨hcz19_0, hfz19_0⟩ := Z1f_ BK101.out) | (go_at_call 18; (with_reducible refine (z18.calls k _ _ l0_0 a1 a2 _ _ l3 true _ ?side1 ?side2 ?side3 ?side4 A12.out).mono ?_); (case side1 => exact KC_ (Kd.C_below HR0_0.out HB.out)); (case side2 => exact HC0_0.out); (case side3 => exact KC_ (Kd.C_below HR3.out HB.out)); (case side4 => exact HC3.out); rintro e w20 ⟨rfl, hb⟩; replace BK101 := Zz.mk (bB_ (g := gb101) (o := .cells #[.slice A0_0 l0_0.length c0_0] 28 (0, 0)) (KB_ BK101.out) hb); replace HB := Zz.mk (bT_ (B1_ HB.out GE101.out) hb); (try clear hb); (try clear hb2); (try clear hk); (try clear hi); obtain ⟨hcz21_0, hfz21_0⟩ := Z1f_ BK101.out) | (go_at_call 18; (with_reducible refine (z18.calls k _ _ l0_0 a1 a2 _ _ l4 t105 _ ?side1 ?side2 ?side3 ?side4 A14.out).mono ?_); (case side1 => exact KC_ (Kd.C_below HR0_0.out HB.out)); (case side2 => exact HC0_0.out); (case side3 => exact KC_ (Kd.C_below HR4.out HB.out)); (case side4 => exact HC4.out); rintro e w22 ⟨rfl, hb⟩; replace BK101 := Zz.mk (bB_ (g := gb101) (o := .cells #[.slice A0_0 l0_0.length c0_0] 28 (0, 0)) (KB_ BK101.out) hb); replace HB := Zz.mk (bT_ (B1_ HB.out GE101.out) hb); (try clear hb); (try clear hb2); (try clear hk); (try clear hi)))
     go_meet
     case rel => exact ⟨_, (!t105), E_, H', ⟨by first | omega | exact Nat.le_refl _⟩, ⟨KB_ BK101.out⟩, ⟨B1_ HB.out GE101.out⟩⟩
    replace c13 := Bool.eq_false_iff.mpr c13
    subst c13
    replace H := N_ H
    have H' := Zz.mk H
    clear H
    obtain ⟨hcz23_0, hfz23_0⟩ := Z1f_ BK101.out
    go_wp2_with (first | ((with_reducible refine gC_ (f := 17) rfl ?_); refine GL_ (some 17) rfl rfl Try.func17 #[.agg #[.slice A0_0 l0_0.length c0_0], .int .i64 a1, .int .i64 a2, .slice A3 l3.length c3] rfl (h := ?_); (with_reducible refine (z17.calls k _ _ l0_0 a1 a2 _ _ l3 t102 _ ?side1 ?side2 ?side3 ?side4 A8.out).mono ?_); (case side1 => exact KC_ (Kd.C_below HR0_0.out HB.out)); (case side2 => exact HC0_0.out); (case side3 => exact KC_ (Kd.C_below HR3.out HB.out)); (case side4 => exact HC3.out); rintro e w24 ⟨rfl, hb⟩; refine ⟨_, rfl, ?_⟩; replace BK101 := Zz.mk (bB_ (g := gb101) (o := .cells #[.slice A0_0 l0_0.length c0_0] 28 (0, 0)) (KB_ BK101.out) hb); replace HB := Zz.mk (bT_ (B1_ HB.out GE101.out) hb); (try clear hb); (try clear hb2); (try clear hk); (try clear hi); obtain ⟨hcz25_0, hfz25_0⟩ := Z1f_ BK101.out) | (go_at_call 17; (with_reducible refine (z17.calls k _ _ l0_0 a1 a2 _ _ l4 t103 _ ?side1 ?side2 ?side3 ?side4 A10.out).mono ?_); (case side1 => exact KC_ (Kd.C_below HR0_0.out HB.out)); (case side2 => exact HC0_0.out); (case side3 => exact KC_ (Kd.C_below HR4.out HB.out)); (case side4 => exact HC4.out); rintro e w26 ⟨rfl, hb⟩; replace BK101 := Zz.mk (bB_ (g := gb101) (o := .cells #[.slice A0_0 l0_0.length c0_0] 28 (0, 0)) (KB_ BK101.out) hb); replace HB := Zz.mk (bT_ (B1_ HB.out GE101.out) hb); (try clear hb); (try clear hb2); (try clear hk); (try clear hi); obtain ⟨hcz27_0, hfz27_0⟩ := Z1f_ BK101.out) | (go_at_call 18; (with_reducible refine (z18.calls k _ _ l0_0 a1 a2 _ _ l3 false _ ?side1 ?side2 ?side3 ?side4 A12.out).mono ?_); (case side1 => exact KC_ (Kd.C_below HR0_0.out HB.out)); (case side2 => exact HC0_0.out); (case side3 => exact KC_ (Kd.C_below HR3.out HB.out)); (case side4 => exact HC3.out); rintro e w28 ⟨rfl, hb⟩; replace BK101 := Zz.mk (bB_ (g := gb101) (o := .cells #[.slice A0_0 l0_0.length c0_0] 28 (0, 0)) (KB_ BK101.out) hb); replace HB := Zz.mk (bT_ (B1_ HB.out GE101.out) hb); (try clear hb); (try clear hb2); (try clear hk); (try clear hi)))
    go_meet
    case rel => exact ⟨_, (true), E_, H', ⟨by first | omega | exact Nat.le_refl _⟩, ⟨KB_ BK101.out⟩, ⟨B1_ HB.out GE101.out⟩⟩
   rw [if_neg c11] at H
   have c11b0 : (t103 == 0) = false := beq_eq_false_iff_ne.mpr c11
   have c11b1 : (t103 != 0) = true := bne_iff_ne.mpr c11
   have H' := Zz.mk H
   clear H
   obtain ⟨hcz29_0, hfz29_0⟩ := Z1f_ BK101.out
   go_wp2_with (first | ((with_reducible refine gC_ (f := 17) rfl ?_); refine GL_ (some 17) rfl rfl Try.func17 #[.agg #[.slice A0_0 l0_0.length c0_0], .int .i64 a1, .int .i64 a2, .slice A3 l3.length c3] rfl (h := ?_); (with_reducible refine (z17.calls k _ _ l0_0 a1 a2 _ _ l3 t102 _ ?side1 ?side2 ?side3 ?side4 A8.out).mono ?_); (case side1 => exact KC_ (Kd.C_below HR0_0.out HB.out)); (case side2 => exact HC0_0.out); (case side3 => exact KC_ (Kd.C_below HR3.out HB.out)); (case side4 => exact HC3.out); rintro e w30 ⟨rfl, hb⟩; refine ⟨_, rfl, ?_⟩; replace BK101 := Zz.mk (bB_ (g := gb101) (o := .cells #[.slice A0_0 l0_0.length c0_0] 28 (0, 0)) (KB_ BK101.out) hb); replace HB := Zz.mk (bT_ (B1_ HB.out GE101.out) hb); (try clear hb); (try clear hb2); (try clear hk); (try clear hi); obtain ⟨hcz31_0, hfz31_0⟩ := Z1f_ BK101.out) | (go_at_call 17; (with_reducible refine (z17.calls k _ _ l0_0 a1 a2 _ _ l4 t103 _ ?side1 ?side2 ?side3 ?side4 A10.out).mono ?_); (case side1 => exact KC_ (Kd.C_below HR0_0.out HB.out)); (case side2 => exact HC0_0.out); (case side3 => exact KC_ (Kd.C_below HR4.out HB.out)); (case side4 => exact HC4.out); rintro e w32 ⟨rfl, hb⟩; replace BK101 := Zz.mk (bB_ (g := gb101) (o := .cells #[.slice A0_0 l0_0.length c0_0] 28 (0, 0)) (KB_ BK101.out) hb); replace HB := Zz.mk (bT_ (B1_ HB.out GE101.out) hb); (try clear hb); (try clear hb2); (try clear hk); (try clear hi)))
   go_meet
   case rel => exact ⟨_, (true), E_, H', ⟨by first | omega | exact Nat.le_refl _⟩, ⟨KB_ BK101.out⟩, ⟨B1_ HB.out GE101.out⟩⟩
  rw [if_neg c9] at H
  have c9b0 : (t102 == 0) = false := beq_eq_false_iff_ne.mpr c9
  have c9b1 : (t102 != 0) = true := bne_iff_ne.mpr c9
  (first | rw [c9b0] | (simp only [qA6, qBm]; rw [c9b0]) | skip)
  have H' := Zz.mk H
  clear H
  obtain ⟨hcz33_0, hfz33_0⟩ := Z1f_ BK101.out
  go_wp2_with (first | ((with_reducible refine gC_ (f := 17) rfl ?_); refine GL_ (some 17) rfl rfl Try.func17 #[.agg #[.slice A0_0 l0_0.length c0_0], .int .i64 a1, .int .i64 a2, .slice A3 l3.length c3] rfl (h := ?_); (with_reducible refine (z17.calls k _ _ l0_0 a1 a2 _ _ l3 t102 _ ?side1 ?side2 ?side3 ?side4 A8.out).mono ?_); (case side1 => exact KC_ (Kd.C_below HR0_0.out HB.out)); (case side2 => exact HC0_0.out); (case side3 => exact KC_ (Kd.C_below HR3.out HB.out)); (case side4 => exact HC3.out); rintro e w34 ⟨rfl, hb⟩; refine ⟨_, rfl, ?_⟩; replace BK101 := Zz.mk (bB_ (g := gb101) (o := .cells #[.slice A0_0 l0_0.length c0_0] 28 (0, 0)) (KB_ BK101.out) hb); replace HB := Zz.mk (bT_ (B1_ HB.out GE101.out) hb); (try clear hb); (try clear hb2); (try clear hk); (try clear hi)))
  go_meet
  case rel => exact ⟨_, (true), E_, H', ⟨by first | omega | exact Nat.le_refl _⟩, ⟨KB_ BK101.out⟩, ⟨B1_ HB.out GE101.out⟩⟩
 case rest =>
  clear HC6
  (try clear c3);(try clear c4)
  obtain ⟨kq, x42_5, rfl, HA, HJ5, BK101, HB⟩ := hcut
  cases kq with
  | zero => exact absurd HA.out (by simp [z8.j0])
  | succ kj5 =>
   have H := HA.out
   clear HA
   simp only [z8.j0] at H
   by_cases c35 : x42_5 = true
   ·subst c35
    replace H := T_ H
    obtain rfl := OI_ H
    go_wp2
    go_ret
    exact ⟨F_, B1_ HB.out GE101.out⟩
   replace c35 := Bool.eq_false_iff.mpr c35
   subst c35
   replace H := N_ H
   replace H := OZ_ H
   obtain ⟨t106, A36, H⟩ := H
   replace H := OB_ H
   obtain ⟨⟨t109, t112⟩, A370, H⟩ := H
   try dsimp only at H
   have A37 := Zz.mk A370
   clear A370
   obtain rfl := OI_ H
   try go_wp2
   replace BK101 := Zz.mk (bD_ BK101.out)
   replace HB := Zz.mk (qAq HB.out)
   refine qBh (n := 15) (S := fun w' => w'.cell? ⟨gb101, 0, none⟩ = some (.slice A0_0 l0_0.length c0_0)) (ds := []) (tb_ 15 0) (by kernel_rfl) rfl rfl ((bC_ BK101.out 0).trans rfl) (fun hHeld => ?_); refine qAz z8.tab3 z8.bits3 (fun HT_ HW_ => ?_)
   generalize wc.drew = w38 at BK101 HB hHeld ⊢
   refine PX_ 1 45 (tb_ 15 2) HT_ rfl rfl ?_
   refine PX_ 2 46 (tb_ 15 6) HT_ rfl rfl ?_
   refine PX_ 3 47 (tb_ 15 14) HT_ rfl rfl ?_
   refine PX_ 4 48 (tb_ 15 30) HT_ rfl rfl ?_
   refine PX_ 5 49 (tb_ 15 62) HT_ rfl rfl ?_
   refine PX_ 6 50 (tb_ 15 126) HT_ rfl rfl ?_
   refine PX_ 7 51 (tb_ 15 254) HT_ rfl rfl ?_
   refine take_ (i := 0) (N := some 44) (v := ?_) (a' := ?_) (tb_ 15 255) rfl rfl (qDl HT_.out HW_.out (by kernel_rfl)) (fun _ _ _ h => h) (Or.inl ⟨by rfl, ?_⟩) hHeld ?_ ?_
   rotate_left
   ·intro w' s0
    go_simp
    with_reducible rfl
   rotate_left
   ·simp only [Act.put, List.setIfInBounds_toArray, List.set_cons_zero, List.set_cons_succ, qA6, qBm]
    rfl
   refine one_ (i := 8) (N := some 52) (tb_ 15 511) rfl rfl (qAy HT_.out (by kernel_rfl)) (by decide) (fun K hK => ?_)
   refine GO_ Try.func20 #[.slice A3 l3.length c3, .slice A4 l4.length c4, .int .i64 (wrap64 (a2 - 1)), .int .i64 a2] (h := ?_)
   with_reducible refine (z20.calls kj5 _ _ l3 _ _ l4 (wrap64 (a2 - 1)) a2 t106 _ ?side1 ?side2 ?side3 ?side4 A36.out).mono ?_
   (case side1 => exact KC_ (Kd.C_below HR3.out HB.out))
   (case side2 => exact HC3.out)
   (case side3 => exact KC_ (Kd.C_below HR4.out HB.out))
   (case side4 => exact HC4.out)
   rintro e w39 ⟨v107, rfl, ho0, hb⟩
   refine ⟨_, rfl, ?_⟩
   have HO108 := Zz.mk (Kd.R_lower ho0 (bS_ (B1_ HB.out GE101.out)))
   replace BK101 := Zz.mk (bB_ (g := gb101) (o := .cells #[.slice A0_0 l0_0.length c0_0] 28 (0, 0)) (KB_ BK101.out) hb)
   replace HB := Zz.mk (bT_ (B1_ HB.out GE101.out) hb)
   (try clear hb);(try clear ho0)
   obtain ⟨Ao40, co40, eo40⟩ := Kd.R_slice HO108.out
   (first | subst eo40 | (injection eo40 with f1_ f2_ f3_; have f4_ := f1_.symm; have f5_ := f3_.symm; clear f1_ f2_ f3_; subst f4_; subst f5_))
   refine hK.out _ _ ((bC_ BK101.out 0).trans rfl) (fun hHeld => ?_)
   clear hK K
   refine NM_ (N := (some 52)) (h := ?_)
   refine one_ (i := 9) (N := some 53) (tb_ 15 1023) rfl rfl (qAy HT_.out (by kernel_rfl)) (by decide) (fun K hK => ?_)
   refine GO_ Try.func19 #[.agg #[.slice A0_0 l0_0.length c0_0], .int .i64 a1, .int .i64 a2, .slice Ao40 t106.length co40] (h := ?_)
   with_reducible refine (z19.calls kj5 _ _ l0_0 a1 a2 _ _ t106 t109 t112 _ ?side1 ?side2 ?side3 ?side4 A37.out).mono ?_
   (case side1 => exact KC_ (Kd.C_below HR0_0.out HB.out))
   (case side2 => exact HC0_0.out)
   (case side3 => exact KC_ (Kd.R_reads' HO108.out).2.2)
   (case side4 => exact (Kd.R_reads' HO108.out).2.1)
   rintro e w41 ⟨v110, rfl, ho0, hb⟩
   refine ⟨_, rfl, ?_⟩
   have HO111 := Zz.mk (Kd.R_lower (Kd.R_new' ho0 (Kd.R_lt (KR_ HO108.out))) (bS_ (B1_ HB.out GE101.out)))
   replace HO108 := Zz.mk (Kd.R_elder' (KR_ HO108.out) (Kd.R_base ho0) hb)
   replace BK101 := Zz.mk (bB_ (g := gb101) (o := .cells #[.slice A0_0 l0_0.length c0_0] 28 (0, 0)) (KB_ BK101.out) hb)
   replace HB := Zz.mk (bT_ (B1_ HB.out GE101.out) hb)
   (try clear hb);(try clear ho0)
   refine hK.out _ _ ((bC_ BK101.out 0).trans rfl) (fun hHeld => ?_)
   clear hK K
   refine NM_ (N := (some 53)) (h := ?_)
   refine PX_ 10 43 (tb_ 15 2047) HT_ rfl rfl ?_
   refine PX_ 11 54 (tb_ 15 4095) HT_ rfl rfl ?_
   refine PX_ 12 55 (tb_ 15 8191) HT_ rfl rfl ?_
   refine PX_ 13 11 (tb_ 15 16383) HT_ rfl rfl ?_
   refine PX_ 14 12 (tb_ 15 32767) HT_ rfl rfl ?_
   refine qBz (qA9 HT_.out (by kernel_rfl)) ?_
   try go_wp2
   go_ret
   exact ⟨F_, B1_ HB.out GE101.out⟩
end Go.Proofs.Ytgdfkcipffjjcaa.B
