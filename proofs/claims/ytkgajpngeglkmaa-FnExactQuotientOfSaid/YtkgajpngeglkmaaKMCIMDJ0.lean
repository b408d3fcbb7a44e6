/- Printed proofs of functions of the program and of the reference, by a program of this work over the kit's printer. -/
import Derived.Test.YtkgajpngeglkmaaKHHICCB0
import Derived.Test.YtkgajpngeglkmaaKKJBPOK0
import Derived.Test.YtkgajpngeglkmaaKLBBOAD0
import Derived.Test.YtkgajpngeglkmaaKNBLNIL0
import Derived.Test.YtkgajpngeglkmaaKONDPAI0
import Derived.Test.YtkgajpngeglkmaaKW0
set_option maxHeartbeats 8000000
set_option maxRecDepth 100000
namespace Go.Proofs.Ytkgajpngeglkmaa.B
open Go.RowKit Go.Proofs.YtkgajpngeglkmaaW.PrintWords Go.Proofs.YtkgajpngeglkmaaW.PrintLast Go.Proofs.YtkgajpngeglkmaaW.PrintMore
attribute [local go_sem] qAh qAf qAn qAm qAc qAb qAg qAe
set_option linter.unusedVariables false
set_option linter.unusedSimpArgs false
def z42.j0 : Nat → Bool → Int → Int → List (List Int) → Int → Int → List (List Int) → Option (Int)
 | 0, _, _, _, _, _, _, _ => none
 | k + 1, x5, x102000, x102001, x102002, x103000, x103001, x103002 => if x5 = true then (some 1) else (if x102000 = x103000 then (if x102001 = x103001 then (some 0) else (some 6)) else (some 6))
def z42.f (k : Nat) (a0_0 : Int) (a0_1 : Int) (l0_2 : List (List Int)) (a1_0 : Int) (a1_1 : Int) (l1_2 : List (List Int)) : Option (Int) := (z54.f k a0_0 a0_1 l0_2).bind fun t103 => (if t103 = true then ((z54.f k a1_0 a1_1 l1_2).bind fun t104 => (z42.j0 k (!t104) a0_0 a0_1 l0_2 a1_0 a1_1 l1_2)) else (z42.j0 k true a0_0 a0_1 l0_2 a1_0 a1_1 l1_2))
theorem z42.calls (k : Nat) (a0_0 : Int) (a0_1 : Int) (A0_2 : Option Addr) (c0_2 : Nat) (l0_2 : List (List Int)) (a1_0 : Int) (a1_1 : Int) (A1_2 : Option Addr) (c1_2 : Nat) (l1_2 : List (List Int)) (r : Int) (w : World) (hr0_2 : Kd.C (Kd.slice 2 (Kd.int .i64)) w A0_2 l0_2.length l0_2) (hc0_2 : l0_2.length ≤ c0_2) (hr1_2 : Kd.C (Kd.slice 2 (Kd.int .i64)) w A1_2 l1_2.length l1_2) (hc1_2 : l1_2.length ≤ c1_2) (h : z42.f k a0_0 a0_1 l0_2 a1_0 a1_1 l1_2 = some r) :
  Calls Try.prog 42 #[.agg #[.int .i64 a0_0, .int .i64 a0_1, .slice A0_2 l0_2.length c0_2], .agg #[.int .i64 a1_0, .int .i64 a1_1, .slice A1_2 l1_2.length c1_2]] w fun e w' => e = .returned (.int .i64 r) ∧ Below w.heap.size w w' := by
 have hu28 := Try.underlying28
 have HR0_2 := Zz.mk hr0_2
 have HC0_2 := Zz.mk hc0_2
 clear hr0_2 hc0_2
 have HR1_2 := Zz.mk hr1_2
 have HC1_2 := Zz.mk hc1_2
 clear hr1_2 hc1_2
 have HB := Zz.mk (Below.refl w.heap.size w)
 have H : ((z54.f k a0_0 a0_1 l0_2).bind fun t103 => (if t103 = true then ((z54.f k a1_0 a1_1 l1_2).bind fun t104 => (z42.j0 k (!t104) a0_0 a0_1 l0_2 a1_0 a1_1 l1_2)) else (z42.j0 k true a0_0 a0_1 l0_2 a1_0 a1_1 l1_2))) = some r := h
 clear h
 have HC3 := Zz.mk H
 clear H
 go_enter Try.func42, Try.ntmps42
 go_upto_region 1 with (first | ((with_reducible refine qAi (N := 2) rfl ?_); refine bx_ 2 #[.int .i64 a0_0, .int .i64 a0_1, .slice A0_2 l0_2.length c0_2] 28 ?_; intro gb101 hg w4 hbox hb; have BK101 := Zz.mk (hbox); have GW101 := Zz.mk ((gw_ hg (B_ HB.out))); have GE101 := GW101; replace HB := Zz.mk (bT_ (B_ HB.out) hb); clear hb hbox hg) | ((with_reducible refine qAi (N := 3) rfl ?_); refine bx_ 3 #[.int .i64 a1_0, .int .i64 a1_1, .slice A1_2 l1_2.length c1_2] 28 ?_; intro gb102 hg w5 hbox hb; have BK102 := Zz.mk (hbox); have GW102 := Zz.mk ((gw_ hg (B1_ HB.out GE101.out))); have GE102 := GW102; have NB101_102 := Zz.mk ((nb_ BK101.out hg)); have NB102_101 := Zz.mk NB101_102.out.symm; replace BK101 := Zz.mk (kb_ BK101.out hb); replace HB := Zz.mk (bT_ (B1_ HB.out GE101.out) hb); clear hb hbox hg))
 (try simp only [Act.put, List.setIfInBounds_toArray, List.set_cons_zero, List.set_cons_succ])
 go_cut [5] (fun v5 wc => ∃ (kq : Nat) (x5_2 : Bool), v5 = .bool x5_2 ∧ Zz (z42.j0 kq x5_2 a0_0 a0_1 l0_2 a1_0 a1_1 l1_2 = some r) ∧ Zz (kq ≤ k) ∧ Zz (wc.heap[gb101]? = some (.cells #[.int .i64 a0_0, .int .i64 a0_1, (.slice A0_2 l0_2.length c0_2)] 28 (0, 0))) ∧ Zz (wc.heap[gb102]? = some (.cells #[.int .i64 a1_0, .int .i64 a1_1, (.slice A1_2 l1_2.length c1_2)] 28 (0, 0))) ∧ Zz (Below w.heap.size w wc))
 case first =>
  have H := HC3.out
  clear HC3
  replace H := OZ_ H
  obtain ⟨t103, A6, H⟩ := H
  by_cases c7 : t103 = true
  ·subst c7
   replace H := T_ H
   replace H := OZ_ H
   obtain ⟨t104, A8, H⟩ := H
   have H' := Zz.mk H
   clear H
   have hnb9 := NB101_102.out
   have hnc9 := NB102_101.out
   obtain ⟨hcz10_0, hcz10_1, hcz10_2, hfz10_0, hfz10_1, hfz10_2⟩ := Z3f_ BK101.out
   go_wp2_with (first | ((with_reducible refine gC_ (f := 54) rfl ?_); refine GL_ (some 7) rfl rfl Try.func54 #[.agg #[.int .i64 a0_0, .int .i64 a0_1, .slice A0_2 l0_2.length c0_2]] rfl (h := ?_); (with_reducible refine (z54.calls k a0_0 a0_1 _ _ l0_2 true _ ?side1 ?side2 A6.out).mono ?_); (case side1 => exact KC_ (Kd.C_below HR0_2.out HB.out)); (case side2 => exact HC0_2.out); rintro e w11 ⟨rfl, hb⟩; refine ⟨_, rfl, ?_⟩; replace BK101 := Zz.mk (kb_ BK101.out hb); replace BK102 := Zz.mk (kb_ BK102.out hb); replace HB := Zz.mk (bT_ (B2_ HB.out GE101.out GE102.out) hb); (try clear hb); obtain ⟨hcz12_0, hcz12_1, hcz12_2, hfz12_0, hfz12_1, hfz12_2⟩ := Z3f_ BK102.out) | (go_at_call 54; (with_reducible refine (z54.calls k a1_0 a1_1 _ _ l1_2 t104 _ ?side1 ?side2 A8.out).mono ?_); (case side1 => exact KC_ (Kd.C_below HR1_2.out HB.out)); (case side2 => exact HC1_2.out); rintro e w13 ⟨rfl, hb⟩; replace BK101 := Zz.mk (kb_ BK101.out hb); replace BK102 := Zz.mk (kb_ BK102.out hb); replace HB := Zz.mk (bT_ (B2_ HB.out GE101.out GE102.out) hb); (try clear hb)))
   go_meet
   case rel => exact ⟨_, (!t104), E_, H', ⟨by first | omega | exact Nat.le_refl _⟩, ⟨KB_ BK101.out⟩, ⟨KB_ BK102.out⟩, ⟨B2_ HB.out GE101.out GE102.out⟩⟩
  replace c7 := Bool.eq_false_iff.mpr c7
  subst c7
  replace H := N_ H
  have H' := Zz.mk H
  clear H
  have hnb14 := NB101_102.out
  have hnc14 := NB102_101.out
  obtain ⟨hcz15_0, hcz15_1, hcz15_2, hfz15_0, hfz15_1, hfz15_2⟩ := Z3f_ BK101.out
  go_wp2_with (first | ((with_reducible refine gC_ (f := 54) rfl ?_); refine GL_ (some 7) rfl rfl Try.func54 #[.agg #[.int .i64 a0_0, .int .i64 a0_1, .slice A0_2 l0_2.length c0_2]] rfl (h := ?_); (with_reducible refine (z54.calls k a0_0 a0_1 _ _ l0_2 false _ ?side1 ?side2 A6.out).mono ?_); (case side1 => exact KC_ (Kd.C_below HR0_2.out HB.out)); (case side2 => exact HC0_2.out); rintro e w16 ⟨rfl, hb⟩; refine ⟨_, rfl, ?_⟩; replace BK101 := Zz.mk (kb_ BK101.out hb); replace BK102 := Zz.mk (kb_ BK102.out hb); replace HB := Zz.mk (bT_ (B2_ HB.out GE101.out GE102.out) hb); (try clear hb)))
  go_meet
  case rel => exact ⟨_, (true), E_, H', ⟨by first | omega | exact Nat.le_refl _⟩, ⟨KB_ BK101.out⟩, ⟨KB_ BK102.out⟩, ⟨B2_ HB.out GE101.out GE102.out⟩⟩
 case rest =>
  clear HC3
  obtain ⟨kq, x5_2, rfl, HA, HJ2, BK101, BK102, HB⟩ := hcut
  cases kq with
  | zero => exact absurd HA.out (by simp [z42.j0])
  | succ kj2 =>
   have H := HA.out
   clear HA
   simp only [z42.j0] at H
   by_cases c17 : x5_2 = true
   ·subst c17
    replace H := T_ H
    obtain rfl := OI_ H
    go_wp2
    go_ret
    exact ⟨F_, B2_ HB.out GE101.out GE102.out⟩
   replace c17 := Bool.eq_false_iff.mpr c17
   subst c17
   replace H := N_ H
   by_cases c18 : a0_0 = a1_0
   ·rw [if_pos c18] at H
    have c18b0 : (a0_0 == a1_0) = true := beq_iff_eq.mpr c18
    have c18b1 : (a0_0 != a1_0) = false := bne_eq_false_iff_eq.mpr c18
    clear c18
    by_cases c19 : a0_1 = a1_1
    ·rw [if_pos c19] at H
     have c19b0 : (a0_1 == a1_1) = true := beq_iff_eq.mpr c19
     have c19b1 : (a0_1 != a1_1) = false := bne_eq_false_iff_eq.mpr c19
     clear c19
     obtain rfl := OI_ H
     have hnb20 := NB101_102.out
     have hnc20 := NB102_101.out
     obtain ⟨hcz21_0, hcz21_1, hcz21_2, hfz21_0, hfz21_1, hfz21_2⟩ := Z3f_ BK101.out
     obtain ⟨hcz22_0, hcz22_1, hcz22_2, hfz22_0, hfz22_1, hfz22_2⟩ := Z3f_ BK102.out
     go_wp2
     go_ret
     exact ⟨F_, B2_ HB.out GE101.out GE102.out⟩
    rw [if_neg c19] at H
    have c19b0 : (a0_1 == a1_1) = false := beq_eq_false_iff_ne.mpr c19
    have c19b1 : (a0_1 != a1_1) = true := bne_iff_ne.mpr c19
    obtain rfl := OI_ H
    have hnb23 := NB101_102.out
    have hnc23 := NB102_101.out
    obtain ⟨hcz24_0, hcz24_1, hcz24_2, hfz24_0, hfz24_1, hfz24_2⟩ := Z3f_ BK101.out
    obtain ⟨hcz25_0, hcz25_1, hcz25_2, hfz25_0, hfz25_1, hfz25_2⟩ := Z3f_ BK102.out
    go_wp2
    go_ret
    exact ⟨F_, B2_ HB.out GE101.out GE102.out⟩
   rw [if_neg c18] at H
   have c18b0 : (a0_0 == a1_0) = false := beq_eq_false_iff_ne.mpr c18
   have c18b1 : (a0_0 != a1_0) = true := bne_iff_ne.mpr c18
   obtain rfl := OI_ H
   have hnb26 := NB101_102.out
   have hnc26 := NB102_101.out
   obtain ⟨hcz27_0, hcz27_1, hcz27_2, hfz27_0, hfz27_1, hfz27_2⟩ := Z3f_ BK101.out
   obtain ⟨hcz28_0, hcz28_1, hcz28_2, hfz28_0, hfz28_1, hfz28_2⟩ := Z3f_ BK102.out
   go_wp2
   go_ret
   exact ⟨F_, B2_ HB.out GE101.out GE102.out⟩
def z44.f (k : Nat) (l0 : List Int) (a1_0 : Int) (a1_1 : Int) (l1_2 : List (List Int)) : Option (Bool) := (z45.f k a1_0 a1_1 l1_2 l0).bind fun t101 => (some (!t101))
theorem z44.calls (k : Nat) (A0 : Option Addr) (c0 : Nat) (l0 : List Int) (gp1 : Nat) (a1_0 : Int) (a1_1 : Int) (A1_2 : Option Addr) (c1_2 : Nat) (l1_2 : List (List Int)) (r : Bool) (w : World) (hbp1 : w.heap[gp1]? = some (.cells #[.int .i64 a1_0, .int .i64 a1_1, .slice A1_2 l1_2.length c1_2] 28 (0, 0))) (hr0 : Kd.C (Kd.int .i64) w A0 l0.length l0) (hc0 : l0.length ≤ c0) (hr1_2 : Kd.C (Kd.slice 2 (Kd.int .i64)) w A1_2 l1_2.length l1_2) (hc1_2 : l1_2.length ≤ c1_2) (h : z44.f k l0 a1_0 a1_1 l1_2 = some r) :
  Calls Try.prog 44 #[.slice A0 l0.length c0, .pointer (some ⟨gp1, 0, none⟩)] w fun e w' => e = .returned (.bool r) ∧ Below w.heap.size w w' := by
 have hu28 := Try.underlying28
 have HR0 := Zz.mk hr0
 have HC0 := Zz.mk hc0
 clear hr0 hc0
 have HR1_2 := Zz.mk hr1_2
 have HC1_2 := Zz.mk hc1_2
 clear hr1_2 hc1_2
 have BK51 := Zz.mk hbp1
 clear hbp1
 have HB := Zz.mk (Below.refl w.heap.size w)
 have H : ((z45.f k a1_0 a1_1 l1_2 l0).bind fun t101 => (some (!t101))) = some r := h
 clear h
 replace H := OZ_ H
 obtain ⟨t101, A3, H⟩ := H
 obtain rfl := OI_ H
 obtain ⟨hcz4_0, hcz4_1, hcz4_2, hfz4_0, hfz4_1, hfz4_2⟩ := Z3f_ BK51.out
 go_enter Try.func44, Try.ntmps44
 go_wp2_with (first | ((with_reducible refine gC_ (f := 45) rfl ?_); refine GL_ (some 6) rfl rfl Try.func45 #[.agg #[.int .i64 a1_0, .int .i64 a1_1, .slice A1_2 l1_2.length c1_2], .slice A0 l0.length c0] rfl (h := ?_); (with_reducible refine (z45.calls k a1_0 a1_1 _ _ l1_2 _ _ l0 t101 _ ?side1 ?side2 ?side3 ?side4 A3.out).mono ?_); (case side1 => exact KC_ HR1_2.out); (case side2 => exact HC1_2.out); (case side3 => exact KC_ HR0.out); (case side4 => exact HC0.out); rintro e w5 ⟨rfl, hb⟩; refine ⟨_, rfl, ?_⟩; replace BK51 := Zz.mk (kb_ BK51.out hb); replace HB := Zz.mk (bT_ (B_ HB.out) hb); (try clear hb)))
 go_ret
 exact ⟨F_, B_ HB.out⟩
def z167.l0 : Nat → List (List Int) → Int → Int → Int → Int → List (List Int) → Option (Int)
 | 0, _, _, _, _, _, _ => none
 | k + 1, x0, x7, x8, x69000, x69001, x69002 => if x8 < x7 then (if 0 ≤ x8 then (if x8 < (x0.length : Int) then ((z44.f k (rI_ x0 x8) x69000 x69001 x69002).bind fun t102 => (if t102 = true then (some x8) else (z167.l0 k x0 x7 (wrap64 (x8 + 1)) x69000 x69001 x69002))) else (none)) else (none)) else (some (-1))
def z167.f (k : Nat) (l0 : List (List Int)) (a1_0 : Int) (a1_1 : Int) (l1_2 : List (List Int)) : Option (Int) := z167.l0 k l0 (l0.length : Int) 0 a1_0 a1_1 l1_2
theorem z167.calls (k : Nat) (A0 : Option Addr) (c0 : Nat) (l0 : List (List Int)) (gp1_0 : Nat) (a1_0 : Int) (a1_1 : Int) (A1_2 : Option Addr) (c1_2 : Nat) (l1_2 : List (List Int)) (r : Int) (w : World) (hbp1_0 : w.heap[gp1_0]? = some (.cells #[.int .i64 a1_0, .int .i64 a1_1, .slice A1_2 l1_2.length c1_2] 28 (0, 0))) (hr0 : Kd.C (Kd.slice 2 (Kd.int .i64)) w A0 l0.length l0) (hc0 : l0.length ≤ c0) (hr1_2 : Kd.C (Kd.slice 2 (Kd.int .i64)) w A1_2 l1_2.length l1_2) (hc1_2 : l1_2.length ≤ c1_2) (h : z167.f k l0 a1_0 a1_1 l1_2 = some r) :
  Calls Try.prog 90 #[.slice A0 l0.length c0, .func (.func 44) #[] #[.pointer (some ⟨gp1_0, 0, none⟩)]] w fun e w' => e = .returned (.int .i64 r) ∧ Below w.heap.size w w' := by
 have HR0 := Zz.mk hr0
 have HC0 := Zz.mk hc0
 clear hr0 hc0
 have HR1_2 := Zz.mk hr1_2
 have HC1_2 := Zz.mk hc1_2
 clear hr1_2 hc1_2
 have BK68 := Zz.mk hbp1_0
 clear hbp1_0
 have HB := Zz.mk (Below.refl w.heap.size w)
 have H : (z167.l0 k l0 (l0.length : Int) 0 a1_0 a1_1 l1_2) = some r := h
 clear h
 have H' := Zz.mk H
 clear H
 go_enter Try.func90, Try.ntmps90
 go_wp2
 go_loopg [8] k (fun kq v8 w' => ∃ (x8_1 : Int), v8 = .int .i64 x8_1 ∧ Zz (z167.l0 kq l0 (l0.length : Int) x8_1 a1_0 a1_1 l1_2 = some r) ∧ Zz (kq ≤ k) ∧ Zz (w'.heap[gp1_0]? = some (.cells #[.int .i64 a1_0, .int .i64 a1_1, (.slice A1_2 l1_2.length c1_2)] 28 (0, 0))) ∧ Zz (Below w.heap.size w w'))
 case atStart => exact ⟨(0), E_, H', ⟨Nat.le_refl _⟩, ⟨KB_ BK68.out⟩, ⟨B_ HB.out⟩⟩
 case round =>
  clear H'
  obtain ⟨x8_1, rfl, HA, HK1, BK68, HB⟩ := hrel
  cases gk with
  | zero => exact absurd HA.out (by simp [z167.l0])
  | succ k1 =>
   have H := HA.out
   clear HA
   simp only [z167.l0] at H
   by_cases c3 : x8_1 < (l0.length : Int)
   ·rw [if_pos c3] at H
    have c3b0 : decide (x8_1 < (l0.length : Int)) = true := decide_eq_true c3
    clear c3
    have c4b0 := O3_ H
    replace H := O2_ H
    have c5b0 := O3_ H
    replace H := O2_ H
    replace H := OZ_ H
    obtain ⟨t102, A6, H⟩ := H
    by_cases c7 : t102 = true
    ·subst c7
     replace H := T_ H
     obtain rfl := OI_ H
     have p101 : 0 ≤ (x8_1 : Int) := D_
     have q101 : x8_1 < (l0.length : Int) := D_
     obtain ⟨ad101, A101_0, c101_0, e101, hx101_0, hl101_0, hi101_0⟩ := qAk HR0.out x8_1 p101 q101
     cases e101
     replace hx101_0 := (HB.out.cell (World.block_lt_of_cell? w _ hx101_0)).trans hx101_0
     have HR101_0 := Zz.mk hi101_0
     have HC101_0 := Zz.mk hl101_0
     clear hi101_0 hl101_0
     replace p101 := eq_true p101
     replace q101 := eq_true q101
     go_wp2_with (first | (go_at_call 44; (with_reducible refine (z44.calls k1 _ _ (rI_ l0 x8_1) gp1_0 a1_0 a1_1 A1_2 c1_2 l1_2 true _ ?side1 ?side2 ?side3 ?side4 ?side5 A6.out).mono ?_); (case side1 => refine BW_ ?_; exact BK68.out); (case side2 => exact KC_ (Kd.C_below HR101_0.out HB.out)); (case side3 => exact HC101_0.out); (case side4 => exact KC_ (Kd.C_below HR1_2.out HB.out)); (case side5 => exact HC1_2.out); rintro e w8 ⟨rfl, hb⟩; replace BK68 := Zz.mk (kb_ BK68.out hb); replace HB := Zz.mk (bT_ (B_ HB.out) hb); (try clear hb)))
     go_ret
     exact ⟨F_, B_ HB.out⟩
    replace c7 := Bool.eq_false_iff.mpr c7
    subst c7
    replace H := N_ H
    have H' := Zz.mk H
    clear H
    have p101 : 0 ≤ (x8_1 : Int) := D_
    have q101 : x8_1 < (l0.length : Int) := D_
    obtain ⟨ad101, A101_0, c101_0, e101, hx101_0, hl101_0, hi101_0⟩ := qAk HR0.out x8_1 p101 q101
    cases e101
    replace hx101_0 := (HB.out.cell (World.block_lt_of_cell? w _ hx101_0)).trans hx101_0
    have HR101_0 := Zz.mk hi101_0
    have HC101_0 := Zz.mk hl101_0
    clear hi101_0 hl101_0
    replace p101 := eq_true p101
    replace q101 := eq_true q101
    go_wp2_with (first | (go_at_call 44; (with_reducible refine (z44.calls k1 _ _ (rI_ l0 x8_1) gp1_0 a1_0 a1_1 A1_2 c1_2 l1_2 false _ ?side1 ?side2 ?side3 ?side4 ?side5 A6.out).mono ?_); (case side1 => refine BW_ ?_; exact BK68.out); (case side2 => exact KC_ (Kd.C_below HR101_0.out HB.out)); (case side3 => exact HC101_0.out); (case side4 => exact KC_ (Kd.C_below HR1_2.out HB.out)); (case side5 => exact HC1_2.out); rintro e w9 ⟨rfl, hb⟩; replace BK68 := Zz.mk (kb_ BK68.out hb); replace HB := Zz.mk (bT_ (B_ HB.out) hb); (try clear hb)))
    go_roundg k1
    case measure => exact Q1_ HK1
    case rel => exact ⟨(wrap64 (x8_1 + 1)), E_, H', ⟨Q1_ HK1⟩, ⟨KB_ BK68.out⟩, ⟨B_ HB.out⟩⟩
   rw [if_neg c3] at H
   have c3b0 : decide (x8_1 < (l0.length : Int)) = false := decide_eq_false c3
   clear c3
   obtain rfl := OI_ H
   go_wp2
   go_ret
   exact ⟨F_, B_ HB.out⟩
def z157.f (k : Nat) (l0 : List (List Int)) (a1_0 : Int) (a1_1 : Int) (l1_2 : List (List Int)) : Option (Bool) := (z167.f k l0 a1_0 a1_1 l1_2).bind fun t101 => (some (decide (t101 ≥ 0)))
theorem z157.calls (k : Nat) (A0 : Option Addr) (c0 : Nat) (l0 : List (List Int)) (gp1_0 : Nat) (a1_0 : Int) (a1_1 : Int) (A1_2 : Option Addr) (c1_2 : Nat) (l1_2 : List (List Int)) (r : Bool) (w : World) (hbp1_0 : w.heap[gp1_0]? = some (.cells #[.int .i64 a1_0, .int .i64 a1_1, .slice A1_2 l1_2.length c1_2] 28 (0, 0))) (hr0 : Kd.C (Kd.slice 2 (Kd.int .i64)) w A0 l0.length l0) (hc0 : l0.length ≤ c0) (hr1_2 : Kd.C (Kd.slice 2 (Kd.int .i64)) w A1_2 l1_2.length l1_2) (hc1_2 : l1_2.length ≤ c1_2) (h : z157.f k l0 a1_0 a1_1 l1_2 = some r) :
  Calls Try.prog 43 #[.slice A0 l0.length c0, .func (.func 44) #[] #[.pointer (some ⟨gp1_0, 0, none⟩)]] w fun e w' => e = .returned (.bool r) ∧ Below w.heap.size w w' := by
 have HR0 := Zz.mk hr0
 have HC0 := Zz.mk hc0
 clear hr0 hc0
 have HR1_2 := Zz.mk hr1_2
 have HC1_2 := Zz.mk hc1_2
 clear hr1_2 hc1_2
 have BK68 := Zz.mk hbp1_0
 clear hbp1_0
 have HB := Zz.mk (Below.refl w.heap.size w)
 have H : ((z167.f k l0 a1_0 a1_1 l1_2).bind fun t101 => (some (decide (t101 ≥ 0)))) = some r := h
 clear h
 replace H := OZ_ H
 obtain ⟨t101, A3, H⟩ := H
 obtain rfl := OI_ H
 go_enter Try.func43, Try.ntmps43
 go_wp2_with (first | ((with_reducible refine gC_ (f := 90) rfl ?_); refine GL_ (some 7) rfl rfl Try.func90 #[.slice A0 l0.length c0, .func (.func 44) #[] #[.pointer (some ⟨gp1_0, 0, none⟩)]] rfl (h := ?_); (with_reducible refine (z167.calls k _ _ l0 gp1_0 a1_0 a1_1 A1_2 c1_2 l1_2 t101 _ ?side1 ?side2 ?side3 ?side4 ?side5 A3.out).mono ?_); (case side1 => refine BW_ ?_; exact BK68.out); (case side2 => exact KC_ HR0.out); (case side3 => exact HC0.out); (case side4 => exact KC_ HR1_2.out); (case side5 => exact HC1_2.out); rintro e w4 ⟨rfl, hb⟩; refine ⟨_, rfl, ?_⟩; replace BK68 := Zz.mk (kb_ BK68.out hb); replace HB := Zz.mk (bT_ (B_ HB.out) hb); (try clear hb)))
 go_ret
 exact ⟨F_, B_ HB.out⟩
def z47.l0 : Nat → List Int → List Int → Int → Option (Bool)
 | 0, _, _, _ => none
 | k + 1, x0, x1, x5 => if x5 < (x0.length : Int) then (if 0 ≤ x5 then (if x5 < (x1.length : Int) then (if (rd x0 x5) = (rd x1 x5) then (z47.l0 k x0 x1 (wrap64 (x5 + 1))) else (some false)) else (none)) else (none)) else (some true)
def z47.f (k : Nat) (l0 : List Int) (l1 : List Int) : Option (Bool) := if (l0.length : Int) = (l1.length : Int) then (z47.l0 k l0 l1 0) else (some false)
theorem z47.calls (k : Nat) (A0 : Option Addr) (c0 : Nat) (l0 : List Int) (A1 : Option Addr) (c1 : Nat) (l1 : List Int) (r : Bool) (w : World) (hr0 : Kd.C (Kd.int .i64) w A0 l0.length l0) (hc0 : l0.length ≤ c0) (hr1 : Kd.C (Kd.int .i64) w A1 l1.length l1) (hc1 : l1.length ≤ c1) (h : z47.f k l0 l1 = some r) :
  Calls Try.prog 47 #[.slice A0 l0.length c0, .slice A1 l1.length c1] w fun e w' => e = .returned (.bool r) ∧ Dz w w' := by
 have HR0 := Zz.mk hr0
 have HC0 := Zz.mk hc0
 clear hr0 hc0
 have HR1 := Zz.mk hr1
 have HC1 := Zz.mk hc1
 clear hr1 hc1
 have H : (if (l0.length : Int) = (l1.length : Int) then (z47.l0 k l0 l1 0) else (some false)) = some r := h
 clear h
 by_cases c3 : (l0.length : Int) = (l1.length : Int)
 ·rw [if_pos c3] at H
  have c3b0 : ((l0.length : Int) == (l1.length : Int)) = true := beq_iff_eq.mpr c3
  have c3b1 : ((l0.length : Int) != (l1.length : Int)) = false := bne_eq_false_iff_eq.mpr c3
  have c3b2 : (l0.length == l1.length) = true := by first | simpa using c3 | (simp at c3 ⊢; omega)
  clear c3
  have H' := Zz.mk H
  clear H
  go_enter Try.func47, Try.ntmps47
  go_wp2
  repeat (go_quiet (fail); try go_wp2)
  go_loopg [5] k (fun kq v5 w' => ∃ (x5_1 : Int), v5 = .int .i64 x5_1 ∧ Zz (z47.l0 kq l0 l1 x5_1 = some r) ∧ Zz (kq ≤ k) ∧ Dz w w')
  case atStart => exact ⟨(0), E_, H', ⟨Nat.le_refl _⟩, by repeat (first | exact Dz.refl _ | apply Dz.step)⟩
  case round =>
   clear H'
   (try clear c1);(try clear c3);(try clear c3b0);(try clear c3b1);(try clear c3b2)
   obtain ⟨x5_1, rfl, HA, HK1, ⟨m1, rfl⟩⟩ := hrel
   cases gk with
   | zero => exact absurd HA.out (by simp [z47.l0])
   | succ k1 =>
    have H := HA.out
    clear HA
    simp only [z47.l0] at H
    by_cases c4 : x5_1 < (l0.length : Int)
    ·rw [if_pos c4] at H
     have c4b0 : decide (x5_1 < (l0.length : Int)) = true := decide_eq_true c4
     clear c4
     have c5b0 := O3_ H
     replace H := O2_ H
     have c6b0 := O3_ H
     replace H := O2_ H
     by_cases c7 : (rd l0 x5_1) = (rd l1 x5_1)
     ·rw [if_pos c7] at H
      have c7b0 : ((rd l0 x5_1) == (rd l1 x5_1)) = true := beq_iff_eq.mpr c7
      have c7b1 : ((rd l0 x5_1) != (rd l1 x5_1)) = false := bne_eq_false_iff_eq.mpr c7
      clear c7
      have H' := Zz.mk H
      clear H
      have p101 : 0 ≤ (x5_1 : Int) := D_
      have q101 : x5_1 < (l0.length : Int) := D_
      obtain ⟨ad101, e101, hx101_0⟩ := Kd.at_int HR0.out x5_1 p101 q101
      cases e101
      replace p101 := eq_true p101
      replace q101 := eq_true q101
      have p102 : 0 ≤ (x5_1 : Int) := D_
      have q102 : x5_1 < (l1.length : Int) := D_
      obtain ⟨ad102, e102, hx102_0⟩ := Kd.at_int HR1.out x5_1 p102 q102
      cases e102
      replace p102 := eq_true p102
      replace q102 := eq_true q102
      go_wp2
      repeat (go_quiet (fail); try go_wp2)
      go_roundg k1
      case measure => exact Q1_ HK1
      case rel => exact ⟨(wrap64 (x5_1 + 1)), E_, H', ⟨Q1_ HK1⟩, by repeat (first | exact Dz.refl _ | apply Dz.step)⟩
     rw [if_neg c7] at H
     have c7b0 : ((rd l0 x5_1) == (rd l1 x5_1)) = false := beq_eq_false_iff_ne.mpr c7
     have c7b1 : ((rd l0 x5_1) != (rd l1 x5_1)) = true := bne_iff_ne.mpr c7
     obtain rfl := OI_ H
     have p101 : 0 ≤ (x5_1 : Int) := D_
     have q101 : x5_1 < (l0.length : Int) := D_
     obtain ⟨ad101, e101, hx101_0⟩ := Kd.at_int HR0.out x5_1 p101 q101
     cases e101
     replace p101 := eq_true p101
     replace q101 := eq_true q101
     have p102 : 0 ≤ (x5_1 : Int) := D_
     have q102 : x5_1 < (l1.length : Int) := D_
     obtain ⟨ad102, e102, hx102_0⟩ := Kd.at_int HR1.out x5_1 p102 q102
     cases e102
     replace p102 := eq_true p102
     replace q102 := eq_true q102
     go_wp2
     repeat (go_quiet (fail); try go_wp2)
     go_ret
     exact eD_
    rw [if_neg c4] at H
    have c4b0 : decide (x5_1 < (l0.length : Int)) = false := decide_eq_false c4
    clear c4
    obtain rfl := OI_ H
    go_wp2
    repeat (go_quiet (fail); try go_wp2)
    go_ret
    exact eD_
 rw [if_neg c3] at H
 have c3b0 : ((l0.length : Int) == (l1.length : Int)) = false := beq_eq_false_iff_ne.mpr c3
 have c3b1 : ((l0.length : Int) != (l1.length : Int)) = true := bne_iff_ne.mpr c3
 have c3b2 : (l0.length == l1.length) = false := by first | simpa using c3 | (simp at c3 ⊢; omega)
 obtain rfl := OI_ H
 go_enter Try.func47, Try.ntmps47
 go_wp2
 repeat (go_quiet (fail); try go_wp2)
 go_ret
 exact eD_
def z11.l0 : Nat → List (List Int) → List (List Int) → Int → Option (Bool)
 | 0, _, _, _ => none
 | k + 1, x0, x1, x5 => if x5 < (x0.length : Int) then (if 0 ≤ x5 then (if x5 < (x1.length : Int) then ((z47.f k (rI_ x0 x5) (rI_ x1 x5)).bind fun t103 => (if t103 = true then (z11.l0 k x0 x1 (wrap64 (x5 + 1))) else (some false))) else (none)) else (none)) else (some true)
def z11.f (k : Nat) (l0 : List (List Int)) (l1 : List (List Int)) : Option (Bool) := if (l0.length : Int) = (l1.length : Int) then (z11.l0 k l0 l1 0) else (some false)
theorem z11.calls (k : Nat) (A0 : Option Addr) (c0 : Nat) (l0 : List (List Int)) (A1 : Option Addr) (c1 : Nat) (l1 : List (List Int)) (r : Bool) (w : World) (hr0 : Kd.C (Kd.slice 2 (Kd.int .i64)) w A0 l0.length l0) (hc0 : l0.length ≤ c0) (hr1 : Kd.C (Kd.slice 2 (Kd.int .i64)) w A1 l1.length l1) (hc1 : l1.length ≤ c1) (h : z11.f k l0 l1 = some r) :
  Calls Try.prog 11 #[.slice A0 l0.length c0, .slice A1 l1.length c1] w fun e w' => e = .returned (.bool r) ∧ Dz w w' := by
 have HR0 := Zz.mk hr0
 have HC0 := Zz.mk hc0
 clear hr0 hc0
 have HR1 := Zz.mk hr1
 have HC1 := Zz.mk hc1
 clear hr1 hc1
 have H : (if (l0.length : Int) = (l1.length : Int) then (z11.l0 k l0 l1 0) else (some false)) = some r := h
 clear h
 by_cases c3 : (l0.length : Int) = (l1.length : Int)
 ·rw [if_pos c3] at H
  have c3b0 : ((l0.length : Int) == (l1.length : Int)) = true := beq_iff_eq.mpr c3
  have c3b1 : ((l0.length : Int) != (l1.length : Int)) = false := bne_eq_false_iff_eq.mpr c3
  have c3b2 : (l0.length == l1.length) = true := by first | simpa using c3 | (simp at c3 ⊢; omega)
  clear c3
  have H' := Zz.mk H
  clear H
  go_enter Try.func11, Try.ntmps11
  go_wp2
  repeat (go_quiet (fail); try go_wp2)
  go_loopg [5] k (fun kq v5 w' => ∃ (x5_1 : Int), v5 = .int .i64 x5_1 ∧ Zz (z11.l0 kq l0 l1 x5_1 = some r) ∧ Zz (kq ≤ k) ∧ Dz w w')
  case atStart => exact ⟨(0), E_, H', ⟨Nat.le_refl _⟩, by repeat (first | exact Dz.refl _ | apply Dz.step)⟩
  case round =>
   clear H'
   (try clear c1);(try clear c3);(try clear c3b0);(try clear c3b1);(try clear c3b2)
   obtain ⟨x5_1, rfl, HA, HK1, ⟨m1, rfl⟩⟩ := hrel
   cases gk with
   | zero => exact absurd HA.out (by simp [z11.l0])
   | succ k1 =>
    have H := HA.out
    clear HA
    simp only [z11.l0] at H
    by_cases c4 : x5_1 < (l0.length : Int)
    ·rw [if_pos c4] at H
     have c4b0 : decide (x5_1 < (l0.length : Int)) = true := decide_eq_true c4
     clear c4
     have c5b0 := O3_ H
     replace H := O2_ H
     have c6b0 := O3_ H
     replace H := O2_ H
     replace H := OZ_ H
     obtain ⟨t103, A7, H⟩ := H
     by_cases c8 : t103 = true
     ·subst c8
      replace H := T_ H
      have H' := Zz.mk H
      clear H
      have p101 : 0 ≤ (x5_1 : Int) := D_
      have q101 : x5_1 < (l0.length : Int) := D_
      obtain ⟨ad101, A101_0, c101_0, e101, hx101_0, hl101_0, hi101_0⟩ := qAk HR0.out x5_1 p101 q101
      cases e101
      have HR101_0 := Zz.mk hi101_0
      have HC101_0 := Zz.mk hl101_0
      clear hi101_0 hl101_0
      replace p101 := eq_true p101
      replace q101 := eq_true q101
      have p102 : 0 ≤ (x5_1 : Int) := D_
      have q102 : x5_1 < (l1.length : Int) := D_
      obtain ⟨ad102, A102_0, c102_0, e102, hx102_0, hl102_0, hi102_0⟩ := qAk HR1.out x5_1 p102 q102
      cases e102
      have HR102_0 := Zz.mk hi102_0
      have HC102_0 := Zz.mk hl102_0
      clear hi102_0 hl102_0
      replace p102 := eq_true p102
      replace q102 := eq_true q102
      go_wp2_with (first | (go_at_call 47; (with_reducible refine (z47.calls k1 _ _ (rI_ l0 x5_1) _ _ (rI_ l1 x5_1) true _ ?side1 ?side2 ?side3 ?side4 A7.out).mono ?_); (case side1 => exact KC_ HR101_0.out); (case side2 => exact HC101_0.out); (case side3 => exact KC_ HR102_0.out); (case side4 => exact HC102_0.out); rintro e w' ⟨rfl, ⟨nd, rfl⟩⟩; (try first | exact ⟨rfl, _, World.drewN_drewN _ _ _⟩ | exact ⟨rfl, _, Eq.trans (World.drewN_drewN _ _ _) (congrArg (World.drewN _) (Nat.add_assoc _ _ _))⟩)))
      repeat (go_quiet (first | (go_at_call 47; (with_reducible refine (z47.calls k1 _ _ (rI_ l0 x5_1) _ _ (rI_ l1 x5_1) true _ ?side1 ?side2 ?side3 ?side4 A7.out).mono ?_); (case side1 => exact KC_ HR101_0.out); (case side2 => exact HC101_0.out); (case side3 => exact KC_ HR102_0.out); (case side4 => exact HC102_0.out); rintro e w' ⟨rfl, ⟨nd, rfl⟩⟩; (try first | exact ⟨rfl, _, World.drewN_drewN _ _ _⟩ | exact ⟨rfl, _, Eq.trans (World.drewN_drewN _ _ _) (congrArg (World.drewN _) (Nat.add_assoc _ _ _))⟩))); try go_wp2_with (first | (go_at_call 47; (with_reducible refine (z47.calls k1 _ _ (rI_ l0 x5_1) _ _ (rI_ l1 x5_1) true _ ?side1 ?side2 ?side3 ?side4 A7.out).mono ?_); (case side1 => exact KC_ HR101_0.out); (case side2 => exact HC101_0.out); (case side3 => exact KC_ HR102_0.out); (case side4 => exact HC102_0.out); rintro e w' ⟨rfl, ⟨nd, rfl⟩⟩; (try first | exact ⟨rfl, _, World.drewN_drewN _ _ _⟩ | exact ⟨rfl, _, Eq.trans (World.drewN_drewN _ _ _) (congrArg (World.drewN _) (Nat.add_assoc _ _ _))⟩))))
      go_roundg k1
      case measure => exact Q1_ HK1
      case rel => exact ⟨(wrap64 (x5_1 + 1)), E_, H', ⟨Q1_ HK1⟩, by repeat (first | exact Dz.refl _ | apply Dz.step)⟩
     replace c8 := Bool.eq_false_iff.mpr c8
     subst c8
     replace H := N_ H
     obtain rfl := OI_ H
     have p101 : 0 ≤ (x5_1 : Int) := D_
     have q101 : x5_1 < (l0.length : Int) := D_
     obtain ⟨ad101, A101_0, c101_0, e101, hx101_0, hl101_0, hi101_0⟩ := qAk HR0.out x5_1 p101 q101
     cases e101
     have HR101_0 := Zz.mk hi101_0
     have HC101_0 := Zz.mk hl101_0
     clear hi101_0 hl101_0
     replace p101 := eq_true p101
     replace q101 := eq_true q101
     have p102 : 0 ≤ (x5_1 : Int) := D_
     have q102 : x5_1 < (l1.length : Int) := D_
     obtain ⟨ad102, A102_0, c102_0, e102, hx102_0, hl102_0, hi102_0⟩ := qAk HR1.out x5_1 p102 q102
     cases e102
     have HR102_0 := Zz.mk hi102_0
     have HC102_0 := Zz.mk hl102_0
     clear hi102_0 hl102_0
     replace p102 := eq_true p102
     replace q102 := eq_true q102
     go_wp2_with (first | (go_at_call 47; (with_reducible refine (z47.calls k1 _ _ (rI_ l0 x5_1) _ _ (rI_ l1 x5_1) false _ ?side1 ?side2 ?side3 ?side4 A7.out).mono ?_); (case side1 => exact KC_ HR101_0.out); (case side2 => exact HC101_0.out); (case side3 => exact KC_ HR102_0.out); (case side4 => exact HC102_0.out); rintro e w' ⟨rfl, ⟨nd, rfl⟩⟩; (try first | exact ⟨rfl, _, World.drewN_drewN _ _ _⟩ | exact ⟨rfl, _, Eq.trans (World.drewN_drewN _ _ _) (congrArg (World.drewN _) (Nat.add_assoc _ _ _))⟩)))
     repeat (go_quiet (first | (go_at_call 47; (with_reducible refine (z47.calls k1 _ _ (rI_ l0 x5_1) _ _ (rI_ l1 x5_1) false _ ?side1 ?side2 ?side3 ?side4 A7.out).mono ?_); (case side1 => exact KC_ HR101_0.out); (case side2 => exact HC101_0.out); (case side3 => exact KC_ HR102_0.out); (case side4 => exact HC102_0.out); rintro e w' ⟨rfl, ⟨nd, rfl⟩⟩; (try first | exact ⟨rfl, _, World.drewN_drewN _ _ _⟩ | exact ⟨rfl, _, Eq.trans (World.drewN_drewN _ _ _) (congrArg (World.drewN _) (Nat.add_assoc _ _ _))⟩))); try go_wp2_with (first | (go_at_call 47; (with_reducible refine (z47.calls k1 _ _ (rI_ l0 x5_1) _ _ (rI_ l1 x5_1) false _ ?side1 ?side2 ?side3 ?side4 A7.out).mono ?_); (case side1 => exact KC_ HR101_0.out); (case side2 => exact HC101_0.out); (case side3 => exact KC_ HR102_0.out); (case side4 => exact HC102_0.out); rintro e w' ⟨rfl, ⟨nd, rfl⟩⟩; (try first | exact ⟨rfl, _, World.drewN_drewN _ _ _⟩ | exact ⟨rfl, _, Eq.trans (World.drewN_drewN _ _ _) (congrArg (World.drewN _) (Nat.add_assoc _ _ _))⟩))))
     go_ret
     exact eD_
    rw [if_neg c4] at H
    have c4b0 : decide (x5_1 < (l0.length : Int)) = false := decide_eq_false c4
    clear c4
    obtain rfl := OI_ H
    go_wp2
    repeat (go_quiet (fail); try go_wp2)
    go_ret
    exact eD_
 rw [if_neg c3] at H
 have c3b0 : ((l0.length : Int) == (l1.length : Int)) = false := beq_eq_false_iff_ne.mpr c3
 have c3b1 : ((l0.length : Int) != (l1.length : Int)) = true := bne_iff_ne.mpr c3
 have c3b2 : (l0.length == l1.length) = false := by first | simpa using c3 | (simp at c3 ⊢; omega)
 obtain rfl := OI_ H
 go_enter Try.func11, Try.ntmps11
 go_wp2
 repeat (go_quiet (fail); try go_wp2)
 go_ret
 exact eD_
def z12.f (k : Nat) (a0_0 : Int) (a0_1 : Int) (l0_2 : List (List Int)) (a1_0 : Int) (a1_1 : Int) (l1_2 : List (List Int)) : Option (Bool) := if a0_0 = a1_0 then (if a0_1 = a1_1 then ((z11.f k l0_2 l1_2).bind fun t103 => (if t103 = true then (some true) else (some false))) else (some false)) else (some false)
theorem z12.calls (k : Nat) (a0_0 : Int) (a0_1 : Int) (A0_2 : Option Addr) (c0_2 : Nat) (l0_2 : List (List Int)) (a1_0 : Int) (a1_1 : Int) (A1_2 : Option Addr) (c1_2 : Nat) (l1_2 : List (List Int)) (r : Bool) (w : World) (hr0_2 : Kd.C (Kd.slice 2 (Kd.int .i64)) w A0_2 l0_2.length l0_2) (hc0_2 : l0_2.length ≤ c0_2) (hr1_2 : Kd.C (Kd.slice 2 (Kd.int .i64)) w A1_2 l1_2.length l1_2) (hc1_2 : l1_2.length ≤ c1_2) (h : z12.f k a0_0 a0_1 l0_2 a1_0 a1_1 l1_2 = some r) :
  Calls Try.prog 12 #[.agg #[.int .i64 a0_0, .int .i64 a0_1, .slice A0_2 l0_2.length c0_2], .agg #[.int .i64 a1_0, .int .i64 a1_1, .slice A1_2 l1_2.length c1_2]] w fun e w' => e = .returned (.bool r) ∧ Below w.heap.size w w' := by
 have hu28 := Try.underlying28
 have HR0_2 := Zz.mk hr0_2
 have HC0_2 := Zz.mk hc0_2
 clear hr0_2 hc0_2
 have HR1_2 := Zz.mk hr1_2
 have HC1_2 := Zz.mk hc1_2
 clear hr1_2 hc1_2
 have HB := Zz.mk (Below.refl w.heap.size w)
 have H : (if a0_0 = a1_0 then (if a0_1 = a1_1 then ((z11.f k l0_2 l1_2).bind fun t103 => (if t103 = true then (some true) else (some false))) else (some false)) else (some false)) = some r := h
 clear h
 by_cases c3 : a0_0 = a1_0
 ·rw [if_pos c3] at H
  have c3b0 : (a0_0 == a1_0) = true := beq_iff_eq.mpr c3
  have c3b1 : (a0_0 != a1_0) = false := bne_eq_false_iff_eq.mpr c3
  clear c3
  by_cases c4 : a0_1 = a1_1
  ·rw [if_pos c4] at H
   have c4b0 : (a0_1 == a1_1) = true := beq_iff_eq.mpr c4
   have c4b1 : (a0_1 != a1_1) = false := bne_eq_false_iff_eq.mpr c4
   clear c4
   replace H := OZ_ H
   obtain ⟨t103, A5, H⟩ := H
   by_cases c6 : t103 = true
   ·subst c6
    replace H := T_ H
    obtain rfl := OI_ H
    go_enter Try.func12, Try.ntmps12
    go_wp2_with (first | ((with_reducible refine qAi (N := 2) rfl ?_); refine bx_ 2 #[.int .i64 a0_0, .int .i64 a0_1, .slice A0_2 l0_2.length c0_2] 28 ?_; intro gb101 hg w7 hbox hb; have BK101 := Zz.mk (hbox); have GW101 := Zz.mk ((gw_ hg (B_ HB.out))); have GE101 := GW101; replace HB := Zz.mk (bT_ (B_ HB.out) hb); clear hb hbox hg) | ((with_reducible refine qAi (N := 3) rfl ?_); refine bx_ 3 #[.int .i64 a1_0, .int .i64 a1_1, .slice A1_2 l1_2.length c1_2] 28 ?_; intro gb102 hg w8 hbox hb; have BK102 := Zz.mk (hbox); have GW102 := Zz.mk ((gw_ hg (B1_ HB.out GE101.out))); have GE102 := GW102; have NB101_102 := Zz.mk ((nb_ BK101.out hg)); have NB102_101 := Zz.mk NB101_102.out.symm; replace BK101 := Zz.mk (kb_ BK101.out hb); replace HB := Zz.mk (bT_ (B1_ HB.out GE101.out) hb); clear hb hbox hg; have hnb9 := NB101_102.out; have hnc9 := NB102_101.out; obtain ⟨hcz10_0, hcz10_1, hcz10_2, hfz10_0, hfz10_1, hfz10_2⟩ := Z3f_ BK101.out; obtain ⟨hcz11_0, hcz11_1, hcz11_2, hfz11_0, hfz11_1, hfz11_2⟩ := Z3f_ BK102.out) | ((with_reducible refine gC_ (f := 11) rfl ?_); refine GL_ (some 19) rfl rfl Try.func11 #[.slice A0_2 l0_2.length c0_2, .slice A1_2 l1_2.length c1_2] rfl (h := ?_); (with_reducible refine (z11.calls k _ _ l0_2 _ _ l1_2 true _ ?side1 ?side2 ?side3 ?side4 A5.out).mono ?_); (case side1 => exact KC_ (Kd.C_below HR0_2.out HB.out)); (case side2 => exact HC0_2.out); (case side3 => exact KC_ (Kd.C_below HR1_2.out HB.out)); (case side4 => exact HC1_2.out); rintro e w' ⟨rfl, ⟨nd, rfl⟩⟩; refine ⟨_, rfl, ?_⟩))
    go_ret
    exact ⟨F_, B2_ HB.out GE101.out GE102.out⟩
   replace c6 := Bool.eq_false_iff.mpr c6
   subst c6
   replace H := N_ H
   obtain rfl := OI_ H
   go_enter Try.func12, Try.ntmps12
   go_wp2_with (first | ((with_reducible refine qAi (N := 2) rfl ?_); refine bx_ 2 #[.int .i64 a0_0, .int .i64 a0_1, .slice A0_2 l0_2.length c0_2] 28 ?_; intro gb101 hg w12 hbox hb; have BK101 := Zz.mk (hbox); have GW101 := Zz.mk ((gw_ hg (B_ HB.out))); have GE101 := GW101; replace HB := Zz.mk (bT_ (B_ HB.out) hb); clear hb hbox hg) | ((with_reducible refine qAi (N := 3) rfl ?_); refine bx_ 3 #[.int .i64 a1_0, .int .i64 a1_1, .slice A1_2 l1_2.length c1_2] 28 ?_; intro gb102 hg w13 hbox hb; have BK102 := Zz.mk (hbox); have GW102 := Zz.mk ((gw_ hg (B1_ HB.out GE101.out))); have GE102 := GW102; have NB101_102 := Zz.mk ((nb_ BK101.out hg)); have NB102_101 := Zz.mk NB101_102.out.symm; replace BK101 := Zz.mk (kb_ BK101.out hb); replace HB := Zz.mk (bT_ (B1_ HB.out GE101.out) hb); clear hb hbox hg; have hnb14 := NB101_102.out; have hnc14 := NB102_101.out; obtain ⟨hcz15_0, hcz15_1, hcz15_2, hfz15_0, hfz15_1, hfz15_2⟩ := Z3f_ BK101.out; obtain ⟨hcz16_0, hcz16_1, hcz16_2, hfz16_0, hfz16_1, hfz16_2⟩ := Z3f_ BK102.out) | ((with_reducible refine gC_ (f := 11) rfl ?_); refine GL_ (some 19) rfl rfl Try.func11 #[.slice A0_2 l0_2.length c0_2, .slice A1_2 l1_2.length c1_2] rfl (h := ?_); (with_reducible refine (z11.calls k _ _ l0_2 _ _ l1_2 false _ ?side1 ?side2 ?side3 ?side4 A5.out).mono ?_); (case side1 => exact KC_ (Kd.C_below HR0_2.out HB.out)); (case side2 => exact HC0_2.out); (case side3 => exact KC_ (Kd.C_below HR1_2.out HB.out)); (case side4 => exact HC1_2.out); rintro e w' ⟨rfl, ⟨nd, rfl⟩⟩; refine ⟨_, rfl, ?_⟩))
   go_ret
   exact ⟨F_, B2_ HB.out GE101.out GE102.out⟩
  rw [if_neg c4] at H
  have c4b0 : (a0_1 == a1_1) = false := beq_eq_false_iff_ne.mpr c4
  have c4b1 : (a0_1 != a1_1) = true := bne_iff_ne.mpr c4
  obtain rfl := OI_ H
  go_enter Try.func12, Try.ntmps12
  go_wp2_with (first | ((with_reducible refine qAi (N := 2) rfl ?_); refine bx_ 2 #[.int .i64 a0_0, .int .i64 a0_1, .slice A0_2 l0_2.length c0_2] 28 ?_; intro gb101 hg w17 hbox hb; have BK101 := Zz.mk (hbox); have GW101 := Zz.mk ((gw_ hg (B_ HB.out))); have GE101 := GW101; replace HB := Zz.mk (bT_ (B_ HB.out) hb); clear hb hbox hg) | ((with_reducible refine qAi (N := 3) rfl ?_); refine bx_ 3 #[.int .i64 a1_0, .int .i64 a1_1, .slice A1_2 l1_2.length c1_2] 28 ?_; intro gb102 hg w18 hbox hb; have BK102 := Zz.mk (hbox); have GW102 := Zz.mk ((gw_ hg (B1_ HB.out GE101.out))); have GE102 := GW102; have NB101_102 := Zz.mk ((nb_ BK101.out hg)); have NB102_101 := Zz.mk NB101_102.out.symm; replace BK101 := Zz.mk (kb_ BK101.out hb); replace HB := Zz.mk (bT_ (B1_ HB.out GE101.out) hb); clear hb hbox hg; have hnb19 := NB101_102.out; have hnc19 := NB102_101.out; obtain ⟨hcz20_0, hcz20_1, hcz20_2, hfz20_0, hfz20_1, hfz20_2⟩ := Z3f_ BK101.out; obtain ⟨hcz21_0, hcz21_1, hcz21_2, hfz21_0, hfz21_1, hfz21_2⟩ := Z3f_ BK102.out))
  go_ret
  exact ⟨F_, B2_ HB.out GE101.out GE102.out⟩
 rw [if_neg c3] at H
 have c3b0 : (a0_0 == a1_0) = false := beq_eq_false_iff_ne.mpr c3
 have c3b1 : (a0_0 != a1_0) = true := bne_iff_ne.mpr c3
 obtain rfl := OI_ H
 go_enter Try.func12, Try.ntmps12
 go_wp2_with (first | ((with_reducible refine qAi (N := 2) rfl ?_); refine bx_ 2 #[.int .i64 a0_0, .int .i64 a0_1, .slice A0_2 l0_2.length c0_2] 28 ?_; intro gb101 hg w22 hbox hb; have BK101 := Zz.mk (hbox); have GW101 := Zz.mk ((gw_ hg (B_ HB.out))); have GE101 := GW101; replace HB := Zz.mk (bT_ (B_ HB.out) hb); clear hb hbox hg) | ((with_reducible refine qAi (N := 3) rfl ?_); refine bx_ 3 #[.int .i64 a1_0, .int .i64 a1_1, .slice A1_2 l1_2.length c1_2] 28 ?_; intro gb102 hg w23 hbox hb; have BK102 := Zz.mk (hbox); have GW102 := Zz.mk ((gw_ hg (B1_ HB.out GE101.out))); have GE102 := GW102; have NB101_102 := Zz.mk ((nb_ BK101.out hg)); have NB102_101 := Zz.mk NB101_102.out.symm; replace BK101 := Zz.mk (kb_ BK101.out hb); replace HB := Zz.mk (bT_ (B1_ HB.out GE101.out) hb); clear hb hbox hg; have hnb24 := NB101_102.out; have hnc24 := NB102_101.out; obtain ⟨hcz25_0, hcz25_1, hcz25_2, hfz25_0, hfz25_1, hfz25_2⟩ := Z3f_ BK101.out; obtain ⟨hcz26_0, hcz26_1, hcz26_2, hfz26_0, hfz26_1, hfz26_2⟩ := Z3f_ BK102.out))
 go_ret
 exact ⟨F_, B2_ HB.out GE101.out GE102.out⟩
def z49.l0 : Nat → List Int → Int → Int → Option (Int)
 | 0, _, _, _ => none
 | k + 1, x0, x1, x5 => if x5 < (x0.length : Int) then (if 0 ≤ x5 then (if (rd x0 x5) = x1 then (z49.l0 k x0 (wrap64 (x1 + 1)) (wrap64 (x5 + 1))) else (some (-1))) else (none)) else (some x1)
def z49.f (k : Nat) (l0 : List Int) (a1 : Int) : Option (Int) := z49.l0 k l0 a1 0
theorem z49.calls (k : Nat) (A0 : Option Addr) (c0 : Nat) (l0 : List Int) (a1 : Int) (r : Int) (w : World) (hr0 : Kd.C (Kd.int .i64) w A0 l0.length l0) (hc0 : l0.length ≤ c0) (h : z49.f k l0 a1 = some r) :
  Calls Try.prog 49 #[.slice A0 l0.length c0, .int .i64 a1] w fun e w' => e = .returned (.int .i64 r) ∧ Dz w w' := by
 have HR0 := Zz.mk hr0
 have HC0 := Zz.mk hc0
 clear hr0 hc0
 have H : (z49.l0 k l0 a1 0) = some r := h
 clear h
 have H' := Zz.mk H
 clear H
 go_enter Try.func49, Try.ntmps49
 go_wp2
 go_loopg [1, 5] k (fun kq v1 v5 w' => ∃ (x1_1 : Int) (x5_1 : Int), v1 = .int .i64 x1_1 ∧ v5 = .int .i64 x5_1 ∧ Zz (z49.l0 kq l0 x1_1 x5_1 = some r) ∧ Zz (kq ≤ k) ∧ Dz w w')
 case atStart => exact ⟨(a1), (0), E_, E_, H', ⟨Nat.le_refl _⟩, by repeat (first | exact Dz.refl _ | apply Dz.step)⟩
 case round =>
  clear H'
  obtain ⟨x1_1, x5_1, rfl, rfl, HA, HK1, ⟨m1, rfl⟩⟩ := hrel
  cases gk with
  | zero => exact absurd HA.out (by simp [z49.l0])
  | succ k1 =>
   have H := HA.out
   clear HA
   simp only [z49.l0] at H
   by_cases c3 : x5_1 < (l0.length : Int)
   ·rw [if_pos c3] at H
    have c3b0 : decide (x5_1 < (l0.length : Int)) = true := decide_eq_true c3
    clear c3
    have c4b0 := O3_ H
    replace H := O2_ H
    by_cases c5 : (rd l0 x5_1) = x1_1
    ·rw [if_pos c5] at H
     have c5b0 : ((rd l0 x5_1) == x1_1) = true := beq_iff_eq.mpr c5
     have c5b1 : ((rd l0 x5_1) != x1_1) = false := bne_eq_false_iff_eq.mpr c5
     clear c5
     have H' := Zz.mk H
     clear H
     have p101 : 0 ≤ (x5_1 : Int) := D_
     have q101 : x5_1 < (l0.length : Int) := D_
     obtain ⟨ad101, e101, hx101_0⟩ := Kd.at_int HR0.out x5_1 p101 q101
     cases e101
     replace p101 := eq_true p101
     replace q101 := eq_true q101
     go_wp2
     go_roundg k1
     case measure => exact Q1_ HK1
     case rel => exact ⟨(wrap64 (x1_1 + 1)), (wrap64 (x5_1 + 1)), E_, E_, H', ⟨Q1_ HK1⟩, by repeat (first | exact Dz.refl _ | apply Dz.step)⟩
    rw [if_neg c5] at H
    have c5b0 : ((rd l0 x5_1) == x1_1) = false := beq_eq_false_iff_ne.mpr c5
    have c5b1 : ((rd l0 x5_1) != x1_1) = true := bne_iff_ne.mpr c5
    obtain rfl := OI_ H
    have p101 : 0 ≤ (x5_1 : Int) := D_
    have q101 : x5_1 < (l0.length : Int) := D_
    obtain ⟨ad101, e101, hx101_0⟩ := Kd.at_int HR0.out x5_1 p101 q101
    cases e101
    replace p101 := eq_true p101
    replace q101 := eq_true q101
    go_wp2
    go_ret
    exact eD_
   rw [if_neg c3] at H
   have c3b0 : decide (x5_1 < (l0.length : Int)) = false := decide_eq_false c3
   clear c3
   obtain rfl := OI_ H
   go_wp2
   go_ret
   exact eD_
def z15.l0 : Nat → List (List Int) → Int → Int → Option (Int)
 | 0, _, _, _ => none
 | k + 1, x0, x1, x5 => if x5 < (x0.length : Int) then (if 0 ≤ x5 then ((z49.f k (rI_ x0 x5) x1).bind fun t102 => (if t102 < 0 then (some (-1)) else (z15.l0 k x0 t102 (wrap64 (x5 + 1))))) else (none)) else (some x1)
def z15.f (k : Nat) (l0 : List (List Int)) (a1 : Int) : Option (Int) := z15.l0 k l0 a1 0
theorem z15.calls (k : Nat) (A0 : Option Addr) (c0 : Nat) (l0 : List (List Int)) (a1 : Int) (r : Int) (w : World) (hr0 : Kd.C (Kd.slice 2 (Kd.int .i64)) w A0 l0.length l0) (hc0 : l0.length ≤ c0) (h : z15.f k l0 a1 = some r) :
  Calls Try.prog 15 #[.slice A0 l0.length c0, .int .i64 a1] w fun e w' => e = .returned (.int .i64 r) ∧ Dz w w' := by
 have HR0 := Zz.mk hr0
 have HC0 := Zz.mk hc0
 clear hr0 hc0
 have H : (z15.l0 k l0 a1 0) = some r := h
 clear h
 have H' := Zz.mk H
 clear H
 go_enter Try.func15, Try.ntmps15
 go_wp2
 go_loopg [1, 5] k (fun kq v1 v5 w' => ∃ (x1_1 : Int) (x5_1 : Int), v1 = .int .i64 x1_1 ∧ v5 = .int .i64 x5_1 ∧ Zz (z15.l0 kq l0 x1_1 x5_1 = some r) ∧ Zz (kq ≤ k) ∧ Dz w w')
 case atStart => exact ⟨(a1), (0), E_, E_, H', ⟨Nat.le_refl _⟩, by repeat (first | exact Dz.refl _ | apply Dz.step)⟩
 case round =>
  clear H'
  obtain ⟨x1_1, x5_1, rfl, rfl, HA, HK1, ⟨m1, rfl⟩⟩ := hrel
  cases gk with
  | zero => exact absurd HA.out (by simp [z15.l0])
  | succ k1 =>
   have H := HA.out
   clear HA
   simp only [z15.l0] at H
   by_cases c3 : x5_1 < (l0.length : Int)
   ·rw [if_pos c3] at H
    have c3b0 : decide (x5_1 < (l0.length : Int)) = true := decide_eq_true c3
    clear c3
    have c4b0 := O3_ H
    replace H := O2_ H
    replace H := OZ_ H
    obtain ⟨t102, A5, H⟩ := H
    by_cases c6 : t102 < 0
    ·rw [if_pos c6] at H
     have c6b0 : decide (t102 < 0) = true := decide_eq_true c6
     clear c6
     obtain rfl := OI_ H
     have p101 : 0 ≤ (x5_1 : Int) := D_
     have q101 : x5_1 < (l0.length : Int) := D_
     obtain ⟨ad101, A101_0, c101_0, e101, hx101_0, hl101_0, hi101_0⟩ := qAk HR0.out x5_1 p101 q101
     cases e101
     have HR101_0 := Zz.mk hi101_0
     have HC101_0 := Zz.mk hl101_0
     clear hi101_0 hl101_0
     replace p101 := eq_true p101
     replace q101 := eq_true q101
     go_wp2_with (first | ((with_reducible refine gC_ (f := 49) rfl ?_); refine GL_ (some 17) rfl rfl Try.func49 #[.slice A101_0 (rI_ l0 x5_1).length c101_0, .int .i64 x1_1] rfl (h := ?_); (with_reducible refine (z49.calls k1 _ _ (rI_ l0 x5_1) x1_1 t102 _ ?side1 ?side2 A5.out).mono ?_); (case side1 => exact KC_ HR101_0.out); (case side2 => exact HC101_0.out); rintro e w' ⟨rfl, ⟨nd, rfl⟩⟩; refine ⟨_, rfl, ?_⟩))
     go_ret
     exact eD_
    rw [if_neg c6] at H
    have c6b0 : decide (t102 < 0) = false := decide_eq_false c6
    clear c6
    have H' := Zz.mk H
    clear H
    have p101 : 0 ≤ (x5_1 : Int) := D_
    have q101 : x5_1 < (l0.length : Int) := D_
    obtain ⟨ad101, A101_0, c101_0, e101, hx101_0, hl101_0, hi101_0⟩ := qAk HR0.out x5_1 p101 q101
    cases e101
    have HR101_0 := Zz.mk hi101_0
    have HC101_0 := Zz.mk hl101_0
    clear hi101_0 hl101_0
    replace p101 := eq_true p101
    replace q101 := eq_true q101
    go_wp2_with (first | ((with_reducible refine gC_ (f := 49) rfl ?_); refine GL_ (some 17) rfl rfl Try.func49 #[.slice A101_0 (rI_ l0 x5_1).length c101_0, .int .i64 x1_1] rfl (h := ?_); (with_reducible refine (z49.calls k1 _ _ (rI_ l0 x5_1) x1_1 t102 _ ?side1 ?side2 A5.out).mono ?_); (case side1 => exact KC_ HR101_0.out); (case side2 => exact HC101_0.out); rintro e w' ⟨rfl, ⟨nd, rfl⟩⟩; refine ⟨_, rfl, ?_⟩))
    go_roundg k1
    case measure => exact Q1_ HK1
    case rel => exact ⟨(t102), (wrap64 (x5_1 + 1)), E_, E_, H', ⟨Q1_ HK1⟩, by repeat (first | exact Dz.refl _ | apply Dz.step)⟩
   rw [if_neg c3] at H
   have c3b0 : decide (x5_1 < (l0.length : Int)) = false := decide_eq_false c3
   clear c3
   obtain rfl := OI_ H
   go_wp2
   go_ret
   exact eD_
def z86.f (l0 : List Int) (a1 : Int) : Option (Int) := if (wrap64 (a1 - (l0.length : Int))) < 0 then (some (-1)) else (some (wrap64 (a1 - (l0.length : Int))))
theorem z86.calls (A0 : Option Addr) (c0 : Nat) (l0 : List Int) (a1 : Int) (r : Int) (w : World) (hr0 : Kd.C (Kd.int .i64) w A0 l0.length l0) (hc0 : l0.length ≤ c0) (h : z86.f l0 a1 = some r) :
  Calls Try.prog 86 #[.slice A0 l0.length c0, .int .i64 a1] w fun e w' => e = .returned (.int .i64 r) ∧ Dz w w' := by
 have HR0 := Zz.mk hr0
 have HC0 := Zz.mk hc0
 clear hr0 hc0
 have H : (if (wrap64 (a1 - (l0.length : Int))) < 0 then (some (-1)) else (some (wrap64 (a1 - (l0.length : Int))))) = some r := h
 clear h
 by_cases c3 : (wrap64 (a1 - (l0.length : Int))) < 0
 ·rw [if_pos c3] at H
  have c3b0 : decide ((wrap64 (a1 - (l0.length : Int))) < 0) = true := decide_eq_true c3
  clear c3
  obtain rfl := OI_ H
  go_enter Try.func86, Try.ntmps86
  go_wp2
  go_ret
  exact eD_
 rw [if_neg c3] at H
 have c3b0 : decide ((wrap64 (a1 - (l0.length : Int))) < 0) = false := decide_eq_false c3
 clear c3
 obtain rfl := OI_ H
 go_enter Try.func86, Try.ntmps86
 go_wp2
 go_ret
 exact eD_
def z37.l0 : Nat → List (List Int) → Int → Int → Option (Int)
 | 0, _, _, _ => none
 | k + 1, x0, x1, x5 => if x5 < (x0.length : Int) then (if 0 ≤ x5 then ((z86.f (rI_ x0 x5) x1).bind fun t102 => (if t102 < 0 then (some (-1)) else (z37.l0 k x0 t102 (wrap64 (x5 + 1))))) else (none)) else (some x1)
def z37.f (k : Nat) (l0 : List (List Int)) (a1 : Int) : Option (Int) := if (wrap64 (a1 - (l0.length : Int))) < 0 then (some (-1)) else (z37.l0 k l0 (wrap64 (a1 - (l0.length : Int))) 0)
theorem z37.calls (k : Nat) (A0 : Option Addr) (c0 : Nat) (l0 : List (List Int)) (a1 : Int) (r : Int) (w : World) (hr0 : Kd.C (Kd.slice 2 (Kd.int .i64)) w A0 l0.length l0) (hc0 : l0.length ≤ c0) (h : z37.f k l0 a1 = some r) :
  Calls Try.prog 37 #[.slice A0 l0.length c0, .int .i64 a1] w fun e w' => e = .returned (.int .i64 r) ∧ Dz w w' := by
 have HR0 := Zz.mk hr0
 have HC0 := Zz.mk hc0
 clear hr0 hc0
 have H : (if (wrap64 (a1 - (l0.length : Int))) < 0 then (some (-1)) else (z37.l0 k l0 (wrap64 (a1 - (l0.length : Int))) 0)) = some r := h
 clear h
 by_cases c3 : (wrap64 (a1 - (l0.length : Int))) < 0
 ·rw [if_pos c3] at H
  have c3b0 : decide ((wrap64 (a1 - (l0.length : Int))) < 0) = true := decide_eq_true c3
  clear c3
  obtain rfl := OI_ H
  go_enter Try.func37, Try.ntmps37
  go_wp2
  go_ret
  exact eD_
 rw [if_neg c3] at H
 have c3b0 : decide ((wrap64 (a1 - (l0.length : Int))) < 0) = false := decide_eq_false c3
 clear c3
 have H' := Zz.mk H
 clear H
 go_enter Try.func37, Try.ntmps37
 go_wp2
 go_loopg [1, 5] k (fun kq v1 v5 w' => ∃ (x1_1 : Int) (x5_1 : Int), v1 = .int .i64 x1_1 ∧ v5 = .int .i64 x5_1 ∧ Zz (z37.l0 kq l0 x1_1 x5_1 = some r) ∧ Zz (kq ≤ k) ∧ Dz w w')
 case atStart => exact ⟨(wrap64 (a1 - (l0.length : Int))), (0), E_, E_, H', ⟨Nat.le_refl _⟩, by repeat (first | exact Dz.refl _ | apply Dz.step)⟩
 case round =>
  clear H'
  (try clear c3);(try clear c3b0)
  obtain ⟨x1_1, x5_1, rfl, rfl, HA, HK1, ⟨m1, rfl⟩⟩ := hrel
  cases gk with
  | zero => exact absurd HA.out (by simp [z37.l0])
  | succ k1 =>
   have H := HA.out
   clear HA
   simp only [z37.l0] at H
   by_cases c4 : x5_1 < (l0.length : Int)
   ·rw [if_pos c4] at H
    have c4b0 : decide (x5_1 < (l0.length : Int)) = true := decide_eq_true c4
    clear c4
    have c5b0 := O3_ H
    replace H := O2_ H
    replace H := OZ_ H
    obtain ⟨t102, A6, H⟩ := H
    by_cases c7 : t102 < 0
    ·rw [if_pos c7] at H
     have c7b0 : decide (t102 < 0) = true := decide_eq_true c7
     clear c7
     obtain rfl := OI_ H
     have p101 : 0 ≤ (x5_1 : Int) := D_
     have q101 : x5_1 < (l0.length : Int) := D_
     obtain ⟨ad101, A101_0, c101_0, e101, hx101_0, hl101_0, hi101_0⟩ := qAk HR0.out x5_1 p101 q101
     cases e101
     have HR101_0 := Zz.mk hi101_0
     have HC101_0 := Zz.mk hl101_0
     clear hi101_0 hl101_0
     replace p101 := eq_true p101
     replace q101 := eq_true q101
     go_wp2_with (first | ((with_reducible refine gC_ (f := 86) rfl ?_); refine GL_ (some 23) rfl rfl Try.func86 #[.slice A101_0 (rI_ l0 x5_1).length c101_0, .int .i64 x1_1] rfl (h := ?_); (with_reducible refine (z86.calls _ _ (rI_ l0 x5_1) x1_1 t102 _ ?side1 ?side2 A6.out).mono ?_); (case side1 => exact KC_ HR101_0.out); (case side2 => exact HC101_0.out); rintro e w' ⟨rfl, ⟨nd, rfl⟩⟩; refine ⟨_, rfl, ?_⟩))
     go_ret
     exact eD_
    rw [if_neg c7] at H
    have c7b0 : decide (t102 < 0) = false := decide_eq_false c7
    clear c7
    have H' := Zz.mk H
    clear H
    have p101 : 0 ≤ (x5_1 : Int) := D_
    have q101 : x5_1 < (l0.length : Int) := D_
    obtain ⟨ad101, A101_0, c101_0, e101, hx101_0, hl101_0, hi101_0⟩ := qAk HR0.out x5_1 p101 q101
    cases e101
    have HR101_0 := Zz.mk hi101_0
    have HC101_0 := Zz.mk hl101_0
    clear hi101_0 hl101_0
    replace p101 := eq_true p101
    replace q101 := eq_true q101
    go_wp2_with (first | ((with_reducible refine gC_ (f := 86) rfl ?_); refine GL_ (some 23) rfl rfl Try.func86 #[.slice A101_0 (rI_ l0 x5_1).length c101_0, .int .i64 x1_1] rfl (h := ?_); (with_reducible refine (z86.calls _ _ (rI_ l0 x5_1) x1_1 t102 _ ?side1 ?side2 A6.out).mono ?_); (case side1 => exact KC_ HR101_0.out); (case side2 => exact HC101_0.out); rintro e w' ⟨rfl, ⟨nd, rfl⟩⟩; refine ⟨_, rfl, ?_⟩))
    go_roundg k1
    case measure => exact Q1_ HK1
    case rel => exact ⟨(t102), (wrap64 (x5_1 + 1)), E_, E_, H', ⟨Q1_ HK1⟩, by repeat (first | exact Dz.refl _ | apply Dz.step)⟩
   rw [if_neg c4] at H
   have c4b0 : decide (x5_1 < (l0.length : Int)) = false := decide_eq_false c4
   clear c4
   obtain rfl := OI_ H
   go_wp2
   go_ret
   exact eD_
def z7.f (k : Nat) (a0_0 : Int) (a0_1 : Int) (l0_2 : List (List Int)) (a1 : Int) : Option (Int) := (z37.f k l0_2 a1).bind fun t102 => (if t102 < 0 then (some (-1)) else (some t102))
theorem z7.calls (k : Nat) (a0_0 : Int) (a0_1 : Int) (A0_2 : Option Addr) (c0_2 : Nat) (l0_2 : List (List Int)) (a1 : Int) (r : Int) (w : World) (hr0_2 : Kd.C (Kd.slice 2 (Kd.int .i64)) w A0_2 l0_2.length l0_2) (hc0_2 : l0_2.length ≤ c0_2) (h : z7.f k a0_0 a0_1 l0_2 a1 = some r) :
  Calls Try.prog 7 #[.agg #[.int .i64 a0_0, .int .i64 a0_1, .slice A0_2 l0_2.length c0_2], .int .i64 a1] w fun e w' => e = .returned (.int .i64 r) ∧ Below w.heap.size w w' := by
 have hu24 := Try.underlying24
 have HR0_2 := Zz.mk hr0_2
 have HC0_2 := Zz.mk hc0_2
 clear hr0_2 hc0_2
 have HB := Zz.mk (Below.refl w.heap.size w)
 have H : ((z37.f k l0_2 a1).bind fun t102 => (if t102 < 0 then (some (-1)) else (some t102))) = some r := h
 clear h
 replace H := OZ_ H
 obtain ⟨t102, A3, H⟩ := H
 by_cases c4 : t102 < 0
 ·rw [if_pos c4] at H
  have c4b0 : decide (t102 < 0) = true := decide_eq_true c4
  clear c4
  obtain rfl := OI_ H
  go_enter Try.func7, Try.ntmps7
  go_wp2_with (first | ((with_reducible refine qAi (N := 2) rfl ?_); refine bx_ 2 #[.int .i64 a0_0, .int .i64 a0_1, .slice A0_2 l0_2.length c0_2] 24 ?_; intro gb101 hg w5 hbox hb; have BK101 := Zz.mk (hbox); have GW101 := Zz.mk ((gw_ hg (B_ HB.out))); have GE101 := GW101; replace HB := Zz.mk (bT_ (B_ HB.out) hb); clear hb hbox hg; obtain ⟨hcz6_0, hcz6_1, hcz6_2, hfz6_0, hfz6_1, hfz6_2⟩ := Z3f_ BK101.out) | ((with_reducible refine gC_ (f := 37) rfl ?_); refine GL_ (some 8) rfl rfl Try.func37 #[.slice A0_2 l0_2.length c0_2, .int .i64 a1] rfl (h := ?_); (with_reducible refine (z37.calls k _ _ l0_2 a1 t102 _ ?side1 ?side2 A3.out).mono ?_); (case side1 => exact KC_ (Kd.C_below HR0_2.out HB.out)); (case side2 => exact HC0_2.out); rintro e w' ⟨rfl, ⟨nd, rfl⟩⟩; refine ⟨_, rfl, ?_⟩))
  go_ret
  exact ⟨F_, B1_ HB.out GE101.out⟩
 rw [if_neg c4] at H
 have c4b0 : decide (t102 < 0) = false := decide_eq_false c4
 clear c4
 obtain rfl := OI_ H
 go_enter Try.func7, Try.ntmps7
 go_wp2_with (first | ((with_reducible refine qAi (N := 2) rfl ?_); refine bx_ 2 #[.int .i64 a0_0, .int .i64 a0_1, .slice A0_2 l0_2.length c0_2] 24 ?_; intro gb101 hg w7 hbox hb; have BK101 := Zz.mk (hbox); have GW101 := Zz.mk ((gw_ hg (B_ HB.out))); have GE101 := GW101; replace HB := Zz.mk (bT_ (B_ HB.out) hb); clear hb hbox hg; obtain ⟨hcz8_0, hcz8_1, hcz8_2, hfz8_0, hfz8_1, hfz8_2⟩ := Z3f_ BK101.out) | ((with_reducible refine gC_ (f := 37) rfl ?_); refine GL_ (some 8) rfl rfl Try.func37 #[.slice A0_2 l0_2.length c0_2, .int .i64 a1] rfl (h := ?_); (with_reducible refine (z37.calls k _ _ l0_2 a1 t102 _ ?side1 ?side2 A3.out).mono ?_); (case side1 => exact KC_ (Kd.C_below HR0_2.out HB.out)); (case side2 => exact HC0_2.out); rintro e w' ⟨rfl, ⟨nd, rfl⟩⟩; refine ⟨_, rfl, ?_⟩))
 go_ret
 exact ⟨F_, B1_ HB.out GE101.out⟩
def z89.l0 : Nat → List Int → List Int → Int → Option (List Int)
 | 0, _, _, _ => none
 | k + 1, x0, x3, x4 => if x4 < (x0.length : Int) then (if 0 ≤ x4 then (if x4 < (x3.length : Int) then (z89.l0 k x0 (x3.set (x4 : Int).toNat (rd x0 x4)) (wrap64 (x4 + 1))) else (none)) else (none)) else (some x3)
def z89.f (k : Nat) (l0 : List Int) : Option (List Int) := if 0 ≤ (l0.length : Int) then (if ((l0.length : Int) : Int).toNat ≤ 35184372088832 then (z89.l0 k l0 (List.replicate ((l0.length : Int) : Int).toNat 0) 0) else (none)) else (none)
theorem z89.calls (k : Nat) (A0 : Option Addr) (c0 : Nat) (l0 : List Int) (r : List Int) (w : World) (hr0 : Kd.C (Kd.int .i64) w A0 l0.length l0) (hc0 : l0.length ≤ c0) (h : z89.f k l0 = some r) :
  Calls Try.prog 89 #[.slice A0 l0.length c0] w fun e w' => ∃ v0_ : Value, e = .returned (v0_) ∧ Kd.R (Kd.int .i64) 2 w' w.heap.size (fun _ => True) v0_ r ∧ Below w.heap.size w w' := by
 have HR0 := Zz.mk hr0
 have HC0 := Zz.mk hc0
 clear hr0 hc0
 have HB := Zz.mk (Below.refl w.heap.size w)
 have H : (if 0 ≤ (l0.length : Int) then (if ((l0.length : Int) : Int).toNat ≤ 35184372088832 then (z89.l0 k l0 (List.replicate ((l0.length : Int) : Int).toNat 0) 0) else (none)) else (none)) = some r := h
 clear h
 have c2 := O1_ H
 replace H := O2_ H
 have c2b0 := eq_true c2
 have c2b1 : decide (0 ≤ (l0.length : Int)) = true := decide_eq_true c2
 clear c2
 have c3 := O1_ H
 replace H := O2_ H
 have c3b0 := eq_true c3
 have c3b1 : decide (((l0.length : Int) : Int).toNat ≤ 35184372088832) = true := decide_eq_true c3
 clear c3
 obtain ⟨y101, hy101⟩ : ∃ y_ : List Int, y_ = (List.replicate ((l0.length : Int) : Int).toNat 0) := ⟨_, rfl⟩
 replace H : (z89.l0 k l0 y101 0) = some r := Y_ hy101 H
 have Ny101 := Zz.mk hy101
 clear hy101
 have H' := Zz.mk H
 clear H
 go_enter Try.func89, Try.ntmps89
 go_wp2_with (first | ((with_reducible refine qAi (N := 7) rfl ?_); refine Kd.R_make (Kd.int .i64) _ 2 rfl (N := 7) rfl 40 _ _ rfl (l0.length : Int) rfl rfl Try.underlying40 (.int .i64 0) 8 qEl rfl (by decide) (by omega) 0 (ok := fun _ => True) (okp := fun _ => True) rfl (fun _ hk => hk) trivial (D_) (Nat.le_trans (Nat.mul_le_mul_right _ (D_ : (l0.length : Int).toNat ≤ 35184372088832)) (by omega)) (Below.refl _ _) (Nat.le_refl _) ?_; intro v102 w4 ho5 hb hg_ hnew_; clear hg_ hnew_; (first | rw [← Ny101.out] at ho5 | (simp only [Int.reduceToNat] at ho5; rw [← Ny101.out] at ho5)); have HO103 := Zz.mk (Kd.R_lower ho5 (bS_ (B_ HB.out))); replace HB := Zz.mk (bT_ (B_ HB.out) hb); clear hb ho5))
 go_loopg [4] k (fun kq v4 w' => ∃ (x3_1 : List Int) (x4_1 : Int), v4 = .int .i64 x4_1 ∧ Zz (z89.l0 kq l0 x3_1 x4_1 = some r) ∧ Zz (kq ≤ k) ∧ Zz (Kd.R (Kd.int .i64) 2 w' w.heap.size (fun _ => True) v102 x3_1) ∧ Zz (Below w.heap.size w w'))
 case atStart => exact ⟨(y101), (0), E_, H', ⟨Nat.le_refl _⟩, ⟨KR_ HO103.out⟩, ⟨B_ HB.out⟩⟩
 case round =>
  clear H'
  (try clear c2);(try clear c2b0);(try clear c2b1);(try clear c3);(try clear c3b0);(try clear c3b1)
  obtain ⟨x3_1, x4_1, rfl, HA, HK1, HO_3, HB⟩ := hrel
  cases gk with
  | zero => exact absurd HA.out (by simp [z89.l0])
  | succ k1 =>
   have H := HA.out
   clear HA
   simp only [z89.l0] at H
   by_cases c6 : x4_1 < (l0.length : Int)
   ·rw [if_pos c6] at H
    have c6b0 : decide (x4_1 < (l0.length : Int)) = true := decide_eq_true c6
    clear c6
    have c7b0 := O3_ H
    replace H := O2_ H
    have c8b0 := O3_ H
    replace H := O2_ H
    obtain ⟨y105, hy105⟩ : ∃ y_ : List Int, y_ = (x3_1.set (x4_1 : Int).toNat (rd l0 x4_1)) := ⟨_, rfl⟩
    replace H : (z89.l0 k1 l0 y105 (wrap64 (x4_1 + 1))) = some r := Y_ hy105 H
    have Ny105 := Zz.mk hy105
    clear hy105
    have H' := Zz.mk H
    clear H
    have p104 : 0 ≤ (x4_1 : Int) := D_
    have q104 : x4_1 < (l0.length : Int) := D_
    obtain ⟨ad104, e104, hx104_0⟩ := Kd.at_int HR0.out x4_1 p104 q104
    cases e104
    replace hx104_0 := (HB.out.cell (World.block_lt_of_cell? w _ hx104_0)).trans hx104_0
    replace p104 := eq_true p104
    replace q104 := eq_true q104
    have p9 : 0 ≤ (x4_1 : Int) := D_
    have q9 : (x4_1 : Int) < ((x3_1.length : Int) : Int) := D_
    obtain ⟨go9, co9, eo9, gb9, gl9, cl9, HG9⟩ := Kd.R_form HO_3.out (by omega)
    (first | cases eo9 | (injection eo9 with ea_ en_ ec_; (first | subst ea_ | (injection ea_ with ea_; subst ea_)); subst ec_; clear en_))
    have GB9 := Zz.mk gb9
    have GG9 := Zz.mk HG9
    clear gb9 gl9 HG9
    obtain ⟨hx9_0, hf9_0⟩ := Kd.R_celln 0 HO_3.out (x4_1 : Int) p9 q9
    replace p9 := eq_true p9
    replace q9 := eq_true q9
    have HP10 := Kd.R_putg HO_3.out (x4_1 : Int) (rd l0 x4_1)
    go_wp2_with (first | ((with_reducible refine qB7 (t := 2) (p := 20) rfl ?_); refine qB1 (t := 2) (p := 20) (v := ?vo_w11) (w1 := (wr.setCell ⟨go9, (x4_1 : Int).toNat, none⟩ (.int .i64 (rd l0 x4_1)))) ?hg ?ho ?hn ?hr ?_; (case ho => rfl); (case hg => rfl); (case hn => rfl); (case hr => first | (go_simp; done) | (go_simp; rfl)); intro w11 hw; have hg : wr.grownBy w11 (some go9) := (by rw [hw]; exact HP10.2); have hp_ : Kd.R (Kd.int .i64) 2 w11 w.heap.size (fun _ => True) (.slice (some ⟨go9, 0, none⟩) x3_1.length co9) y105 := (by rw [hw, Ny105.out]; exact HP10.1); clear HP10; replace HO_3 := Zz.mk (hp_); replace HB := Zz.mk ((by rw [hw]; exact qAp (HB.out) GB9.out : Below w.heap.size w w11)); clear hg hw hp_))
    go_roundg k1
    case measure => exact Q1_ HK1
    case rel => exact ⟨(y105), (wrap64 (x4_1 + 1)), E_, H', ⟨Q1_ HK1⟩, ⟨KR_ HO_3.out⟩, ⟨B_ HB.out⟩⟩
   rw [if_neg c6] at H
   have c6b0 : decide (x4_1 < (l0.length : Int)) = false := decide_eq_false c6
   clear c6
   obtain rfl := OI_ H
   go_wp2
   go_ret
   exact ⟨_, F_, KR_ HO_3.out, B_ HB.out⟩
def z41.l0 : Nat → List (List Int) → List (List Int) → Int → Option ((List (List Int)))
 | 0, _, _, _ => none
 | k + 1, x0, x3, x4 => if x4 < (x0.length : Int) then (if 0 ≤ x4 then ((z89.f k (rI_ x0 x4)).bind fun t105 => (if x4 < (x3.length : Int) then (z41.l0 k x0 (x3.set (x4 : Int).toNat t105) (wrap64 (x4 + 1))) else (none))) else (none)) else (some x3)
def z41.f (k : Nat) (l0 : List (List Int)) : Option ((List (List Int))) := if 0 ≤ (l0.length : Int) then (if ((l0.length : Int) : Int).toNat ≤ 11728124029610 then (z41.l0 k l0 (List.replicate ((l0.length : Int) : Int).toNat []) 0) else (none)) else (none)
theorem z41.calls (k : Nat) (A0 : Option Addr) (c0 : Nat) (l0 : List (List Int)) (r : List (List Int)) (w : World) (hr0 : Kd.C (Kd.slice 2 (Kd.int .i64)) w A0 l0.length l0) (hc0 : l0.length ≤ c0) (h : z41.f k l0 = some r) :
  Calls Try.prog 41 #[.slice A0 l0.length c0] w fun e w' => ∃ v0_ : Value, e = .returned (v0_) ∧ Kd.S (Kd.slice 2 (Kd.int .i64)) 40 w' w.heap.size (fun _ => True) v0_ r ∧ Below w.heap.size w w' := by
 have HR0 := Zz.mk hr0
 have HC0 := Zz.mk hc0
 clear hr0 hc0
 have HB := Zz.mk (Below.refl w.heap.size w)
 have H : (if 0 ≤ (l0.length : Int) then (if ((l0.length : Int) : Int).toNat ≤ 11728124029610 then (z41.l0 k l0 (List.replicate ((l0.length : Int) : Int).toNat []) 0) else (none)) else (none)) = some r := h
 clear h
 have c2 := O1_ H
 replace H := O2_ H
 have c2b0 := eq_true c2
 have c2b1 : decide (0 ≤ (l0.length : Int)) = true := decide_eq_true c2
 clear c2
 have c3 := O1_ H
 replace H := O2_ H
 have c3b0 := eq_true c3
 have c3b1 : decide (((l0.length : Int) : Int).toNat ≤ 11728124029610) = true := decide_eq_true c3
 clear c3
 obtain ⟨y101, hy101⟩ : ∃ y_ : List (List Int), y_ = (List.replicate ((l0.length : Int) : Int).toNat []) := ⟨_, rfl⟩
 replace H : (z41.l0 k l0 y101 0) = some r := Y_ hy101 H
 have Ny101 := Zz.mk hy101
 clear hy101
 have H' := Zz.mk H
 clear H
 go_enter Try.func41, Try.ntmps41
 go_wp2_with (first | ((with_reducible refine qAi (N := 7) rfl ?_); refine Kd.S_make (Kd.slice 2 (Kd.int .i64)) _ 40 rfl (N := 7) rfl 22 _ _ rfl (l0.length : Int) rfl rfl Try.underlying22 (.slice none 0 0) 24 qBs rfl (by decide) (by omega) [] (ok := fun _ => True) (okp := fun _ => True) ⟨_, rfl, Kd.R_nil _ _ _ _ _⟩ (fun _ hk => hk) trivial (D_) (Nat.le_trans (Nat.mul_le_mul_right _ (D_ : (l0.length : Int).toNat ≤ 11728124029610)) (by omega)) (Below.refl _ _) (Nat.le_refl _) ?_; intro v102 w4 ho5 hb hg_ hnew_; clear hg_ hnew_; (first | rw [← Ny101.out] at ho5 | (simp only [Int.reduceToNat] at ho5; rw [← Ny101.out] at ho5)); have HO103 := Zz.mk (Kd.S_lower ho5 (bS_ (B_ HB.out))); replace HB := Zz.mk (bT_ (B_ HB.out) hb); clear hb ho5))
 go_loopg [4] k (fun kq v4 w' => ∃ (x3_1 : List (List Int)) (x4_1 : Int), v4 = .int .i64 x4_1 ∧ Zz (z41.l0 kq l0 x3_1 x4_1 = some r) ∧ Zz (kq ≤ k) ∧ Zz (Kd.S (Kd.slice 2 (Kd.int .i64)) 40 w' w.heap.size (fun _ => True) v102 x3_1) ∧ Zz (Below w.heap.size w w'))
 case atStart => exact ⟨(y101), (0), E_, H', ⟨Nat.le_refl _⟩, ⟨KS_ HO103.out⟩, ⟨B_ HB.out⟩⟩
 case round =>
  clear H'
  (try clear c2);(try clear c2b0);(try clear c2b1);(try clear c3);(try clear c3b0);(try clear c3b1)
  obtain ⟨x3_1, x4_1, rfl, HA, HK1, HO_3, HB⟩ := hrel
  cases gk with
  | zero => exact absurd HA.out (by simp [z41.l0])
  | succ k1 =>
   have H := HA.out
   clear HA
   simp only [z41.l0] at H
   by_cases c6 : x4_1 < (l0.length : Int)
   ·rw [if_pos c6] at H
    have c6b0 : decide (x4_1 < (l0.length : Int)) = true := decide_eq_true c6
    clear c6
    have c7b0 := O3_ H
    replace H := O2_ H
    replace H := OZ_ H
    obtain ⟨t105, A8, H⟩ := H
    have c9b0 := O3_ H
    replace H := O2_ H
    obtain ⟨y108, hy108⟩ : ∃ y_ : List (List Int), y_ = (x3_1.set (x4_1 : Int).toNat t105) := ⟨_, rfl⟩
    replace H : (z41.l0 k1 l0 y108 (wrap64 (x4_1 + 1))) = some r := Y_ hy108 H
    have Ny108 := Zz.mk hy108
    clear hy108
    have H' := Zz.mk H
    clear H
    have p104 : 0 ≤ (x4_1 : Int) := D_
    have q104 : x4_1 < (l0.length : Int) := D_
    obtain ⟨ad104, A104_0, c104_0, e104, hx104_0, hl104_0, hi104_0⟩ := qAk HR0.out x4_1 p104 q104
    cases e104
    replace hx104_0 := (HB.out.cell (World.block_lt_of_cell? w _ hx104_0)).trans hx104_0
    have HR104_0 := Zz.mk hi104_0
    have HC104_0 := Zz.mk hl104_0
    clear hi104_0 hl104_0
    replace p104 := eq_true p104
    replace q104 := eq_true q104
    go_wp2_with (first | ((with_reducible refine gC_ (f := 89) rfl ?_); refine GL_ (some 20) rfl rfl Try.func89 #[.slice A104_0 (rI_ l0 x4_1).length c104_0] rfl (h := ?_); (with_reducible refine (z89.calls k1 _ _ (rI_ l0 x4_1) t105 _ ?side1 ?side2 A8.out).mono ?_); (case side1 => exact KC_ (Kd.C_below HR104_0.out HB.out)); (case side2 => exact HC104_0.out); rintro e w11 ⟨v106, rfl, ho0, hb⟩; refine ⟨_, rfl, ?_⟩; replace HO_3 := Zz.mk (Kd.S_elder' (KS_ HO_3.out) (Kd.R_base ho0) hb); have HO107 := Zz.mk (Kd.R_lower ho0 (bS_ (B_ HB.out))); replace HB := Zz.mk (bT_ (B_ HB.out) hb); (try clear hb); (try clear ho0); have p10 : 0 ≤ (x4_1 : Int) := D_; have q10 : (x4_1 : Int) < ((x3_1.length : Int) : Int) := D_; obtain ⟨go10, co10, eo10, gb10, gl10, cl10, HG10⟩ := Kd.S_form HO_3.out (by omega); (first | cases eo10 | (injection eo10 with ea_ en_ ec_; (first | subst ea_ | (injection ea_ with ea_; subst ea_)); subst ec_; clear en_)); have GB10 := Zz.mk gb10; have GG10 := Zz.mk HG10; clear gb10 gl10 HG10; obtain ⟨_, ce10, hcl10, hM10, hcc10, hfr10, _, _⟩ := Kd.S_elem HO_3.out [] (x4_1 : Int) p10 q10; obtain ⟨ve10_0, rfl, ge10_0⟩ := hM10; have hx10_0 := hcc10 0 _ rfl; have hf10_0 := hfr10 0; (try simp only [show ((Kd.slice 2 (Kd.int .i64))).sz = 1 from rfl, Nat.mul_one, Nat.add_zero] at hx10_0); (try simp only [show ((Kd.slice 2 (Kd.int .i64))).sz = 1 from rfl, Nat.mul_one, Nat.add_zero] at hf10_0); clear hcl10 hcc10 hfr10; (try clear hM10); replace p10 := eq_true p10; replace q10 := eq_true q10; obtain ⟨Ao14, co14, eo14⟩ := Kd.R_slice HO107.out; subst eo14; have n_ := Zz.mk (Kd.S_mono (ok' := (fun k_ => some k_ ≠ (.slice Ao14 t105.length co14 : Value).ownBlock)) HO_3.out (fun k_ hk => hk.2)); clear HO_3; have HO_3 := n_; clear n_; have HX12 := Zz.mk (show Kd.S (Kd.slice 2 (Kd.int .i64)) 40 w11 w.heap.size (fun k_ => ((fun _ => True)) k_ ∧ ¬ ((fun k_ => some k_ = (.slice Ao14 t105.length co14 : Value).ownBlock)) k_) (.slice (some ⟨go10, 0, none⟩) x3_1.length co10) x3_1 from (by refine SW_ ?_; exact Kd.S_mono HO_3.out (fun k_ hk => ⟨trivial, fun e_ => hk e_⟩))); obtain ⟨oki12, ce12, hcl12, hM12, hcc12, hfr12, hoki12, hH12⟩ := Kd.S_elem HX12.out [] (x4_1 : Int) (D_) (by have h_ : (x4_1 : Int) < ((x3_1.length : Int) : Int) := D_; first | exact h_ | (have e_ := (Kd.S_reads' HO_3.out).1; omega) | simpa using h_); obtain ⟨ve12_0, rfl, ge12_0⟩ := hM12; have HP12 := Kd.S_seg hH12 (D_) (by have h_ : (x4_1 : Int) < ((x3_1.length : Int) : Int) := D_; first | exact h_ | (have e_ := (Kd.S_reads' HO_3.out).1; omega) | simpa using h_) (seg := [.slice Ao14 t105.length co14]) (j := 0) (show 1 ≤ 1 from by decide) (x' := t105) (Kd.M_row (Kd.R_mono (Kd.R_tight rfl (Kd.R_mono (ok' := fun k_ => ((fun _ => True)) k_ ∧ k_ ≠ go10) (Kd.R_apart' (HO107.out) (Kd.S_typed HO_3.out) (by decide)) (fun k_ hk => ⟨trivial, fun e_ => (hk.2) (by rw [e_]; rfl)⟩))) (fun _ h_ => Or.inr (h_)))) (fun _ hk => hk) (fun k_ hk_ => ((Kd.R_mono (ok' := fun k_ => ((fun _ => True)) k_ ∧ k_ ≠ go10) (Kd.R_apart' (HO107.out) (Kd.S_typed HO_3.out) (by decide)) (fun k_ hk => ⟨trivial, fun e_ => (hk.2) (by rw [e_]; rfl)⟩))).1 k_ hk_.symm); have hx12_0 := hcc12 0 _ rfl; (try simp only [show ((Kd.slice 2 (Kd.int .i64))).sz = 1 from rfl, Nat.mul_one, Nat.add_zero] at hx12_0); have hf12_0 := hfr12 0; (try simp only [show ((Kd.slice 2 (Kd.int .i64))).sz = 1 from rfl, Nat.mul_one, Nat.add_zero] at hf12_0); clear hcl12 hcc12 hfr12 hoki12 hH12; (try clear hM12); (try simp only [show ((Kd.slice 2 (Kd.int .i64))).sz = 1 from rfl, Nat.mul_one, Nat.add_zero] at HP12)) | ((with_reducible refine qB7 (t := 40) (p := 21) rfl ?_); refine qB1 (t := 40) (p := 21) (v := ?vo_w13) (w1 := (w11.setCell ⟨go10, (x4_1 : Int).toNat, none⟩ (.slice Ao14 t105.length co14))) ?hg ?ho ?hn ?hr ?_; (case ho => rfl); (case hg => rfl); (case hn => rfl); (case hr => first | (go_simp; done) | (go_simp; rfl)); intro w13 hw; have hg : w11.grownBy w13 (some go10) := (by rw [hw]; exact HP12.2); have hp_ : Kd.S (Kd.slice 2 (Kd.int .i64)) 40 w13 w.heap.size (fun _ => True) (.slice (some ⟨go10, 0, none⟩) x3_1.length co10) y108 := (by rw [hw, Ny108.out]; exact HP12.1); clear HP12; replace HO_3 := Zz.mk (hp_); replace HB := Zz.mk ((by rw [hw]; exact qAp (HB.out) GB10.out : Below w.heap.size w w13)); clear HO107; clear hg hw hp_))
    go_roundg k1
    case measure => exact Q1_ HK1
    case rel => exact ⟨(y108), (wrap64 (x4_1 + 1)), E_, H', ⟨Q1_ HK1⟩, ⟨KS_ HO_3.out⟩, ⟨B_ HB.out⟩⟩
   rw [if_neg c6] at H
   have c6b0 : decide (x4_1 < (l0.length : Int)) = false := decide_eq_false c6
   clear c6
   obtain rfl := OI_ H
   go_wp2
   go_ret
   exact ⟨_, F_, KS_ HO_3.out, B_ HB.out⟩
def z9.f (k : Nat) (a0_0 : Int) (a0_1 : Int) (l0_2 : List (List Int)) : Option (Int × Int × (List (List Int))) := (z41.f k l0_2).bind fun t104 => (some (a0_0, a0_1, t104))
theorem z9.calls (k : Nat) (a0_0 : Int) (a0_1 : Int) (A0_2 : Option Addr) (c0_2 : Nat) (l0_2 : List (List Int)) (r1 : Int) (r2 : Int) (r3 : List (List Int)) (w : World) (hr0_2 : Kd.C (Kd.slice 2 (Kd.int .i64)) w A0_2 l0_2.length l0_2) (hc0_2 : l0_2.length ≤ c0_2) (h : z9.f k a0_0 a0_1 l0_2 = some (r1, r2, r3)) :
  Calls Try.prog 9 #[.agg #[.int .i64 a0_0, .int .i64 a0_1, .slice A0_2 l0_2.length c0_2]] w fun e w' => ∃ v2_ : Value, e = .returned (.agg #[.int .i64 r1, .int .i64 r2, v2_]) ∧ Kd.S (Kd.slice 2 (Kd.int .i64)) 40 w' w.heap.size (fun _ => True) v2_ r3 ∧ Below w.heap.size w w' := by
 have hu24 := Try.underlying24
 have hu28 := Try.underlying28
 have HR0_2 := Zz.mk hr0_2
 have HC0_2 := Zz.mk hc0_2
 clear hr0_2 hc0_2
 have HB := Zz.mk (Below.refl w.heap.size w)
 have H : ((z41.f k l0_2).bind fun t104 => (some (a0_0, a0_1, t104))) = some (r1, r2, r3) := h
 clear h
 replace H := OB_ H
 obtain ⟨t104, A20, H⟩ := H
 replace H : (some (a0_0, a0_1, t104)) = some (r1, r2, r3) := H
 have A2 := Zz.mk A20
 clear A20
 simp only [Option.some.injEq, Prod.mk.injEq] at H
 obtain ⟨rfl, rfl, rfl⟩ := H
 go_enter Try.func9, Try.ntmps9
 go_wp2_with (first | ((with_reducible refine qAi (N := 1) rfl ?_); refine bx_ 1 #[.int .i64 a0_0, .int .i64 a0_1, .slice A0_2 l0_2.length c0_2] 24 ?_; intro gb101 hg w3 hbox hb; have BK101 := Zz.mk (hbox); have GW101 := Zz.mk ((gw_ hg (B_ HB.out))); have GE101 := GW101; replace HB := Zz.mk (bT_ (B_ HB.out) hb); clear hb hbox hg) | ((with_reducible refine qAi (N := 2) rfl ?_); refine bx_ 2 #[.int .i64 0, .int .i64 0, .slice none 0 0] 28 ?_; intro gb102 hg w4 hbox hb; have BK102 := Zz.mk (hbox); have GW102 := Zz.mk ((gw_ hg (B1_ HB.out GE101.out))); have GE102 := GW102; have NB101_102 := Zz.mk ((nb_ BK101.out hg)); have NB102_101 := Zz.mk NB101_102.out.symm; replace BK101 := Zz.mk (kb_ BK101.out hb); replace HB := Zz.mk (bT_ (B1_ HB.out GE101.out) hb); clear hb hbox hg) | ((with_reducible refine qAi (N := 3) rfl ?_); refine bx_ 3 #[.int .i64 0, .int .i64 0, .slice none 0 0] 28 ?_; intro gb103 hg w5 hbox hb; have BK103 := Zz.mk (hbox); have GW103 := Zz.mk ((gw_ hg (B2_ HB.out GE101.out GE102.out))); have GE103 := GW103; have NB101_103 := Zz.mk ((nb_ BK101.out hg)); have NB103_101 := Zz.mk NB101_103.out.symm; have NB102_103 := Zz.mk ((nb_ BK102.out hg)); have NB103_102 := Zz.mk NB102_103.out.symm; replace BK101 := Zz.mk (kb_ BK101.out hb); replace BK102 := Zz.mk (kb_ BK102.out hb); replace HB := Zz.mk (bT_ (B2_ HB.out GE101.out GE102.out) hb); clear hb hbox hg; have hnb6 := NB101_102.out; have hnc6 := NB102_101.out; have hnb7 := NB101_103.out; have hnc7 := NB103_101.out; obtain ⟨hcz8_0, hcz8_1, hcz8_2, hfz8_0, hfz8_1, hfz8_2⟩ := Z3f_ BK101.out; have hnb9 := NB103_102.out; have hnc9 := NB102_103.out; obtain ⟨hcz10_0, hcz10_1, hcz10_2, hfz10_0, hfz10_1, hfz10_2⟩ := Z3f_ BK103.out) | ((with_reducible refine gC_ (f := 41) rfl ?_); refine GL_ (some 12) rfl rfl Try.func41 #[.slice A0_2 l0_2.length c0_2] rfl (h := ?_); (with_reducible refine (z41.calls k _ _ l0_2 t104 _ ?side1 ?side2 A2.out).mono ?_); (case side1 => exact Kd.C_below HR0_2.out (B3_ HB.out GE101.out GE102.out GE103.out)); (case side2 => exact HC0_2.out); rintro e w11 ⟨v105, rfl, ho0, hb⟩; refine ⟨_, rfl, ?_⟩; have HO106 := Zz.mk (Kd.S_lower ho0 (bS_ (B3_ HB.out GE101.out GE102.out GE103.out))); replace BK101 := Zz.mk (bB_ (g := gb101) (o := .cells #[.int .i64 a0_0, .int .i64 a0_1, .slice A0_2 l0_2.length c0_2] 24 (0, 0)) (by refine BW_ ?_; refine bR_ ?_ NB101_103.out _; refine BW_ ?_; refine bR_ ?_ NB101_103.out _; refine BW_ ?_; exact BK101.out) hb); replace BK102 := Zz.mk (bB_ (g := gb102) (o := .cells #[.int .i64 0, .int .i64 0, .slice none 0 0] 28 (0, 0)) (by refine BW_ ?_; refine bR_ ?_ NB102_103.out _; refine BW_ ?_; refine bR_ ?_ NB102_103.out _; refine BW_ ?_; exact BK102.out) hb); replace BK103 := Zz.mk (bB_ (g := gb103) (o := .cells #[.int .i64 a0_0, .int .i64 a0_1, .slice none 0 0] 28 (0, 0)) (by refine BW_ ?_; refine bP_ (cs := #[.int .i64 a0_0, .int .i64 0, .slice none 0 0]) ?_ 1 _ rfl; refine BW_ ?_; refine bP_ (cs := #[.int .i64 0, .int .i64 0, .slice none 0 0]) ?_ 0 _ rfl; refine BW_ ?_; exact BK103.out) hb); replace HB := Zz.mk (bT_ (B3_ HB.out GE101.out GE102.out GE103.out) hb); (try clear hb); (try clear ho0); obtain ⟨Ao12, co12, eo12⟩ := Kd.S_slice HO106.out; subst eo12; obtain ⟨hcz13_0, hcz13_1, hcz13_2, hfz13_0, hfz13_1, hfz13_2⟩ := Z3f_ BK103.out; obtain ⟨hcz14_0, hcz14_1, hcz14_2, hfz14_0, hfz14_1, hfz14_2⟩ := Z3f_ BK102.out))
 refine bodyPost_ret (results_cell_row rfl _ _ gb102 28 #[.int .i64 a0_0, .int .i64 a0_1, .slice Ao12 t104.length co12] (0, 0) _ rfl (by refine BW_ ?_; refine bP_ (cs := #[.int .i64 a0_0, .int .i64 a0_1, .slice none 0 0]) ?_ 2 _ rfl; refine BW_ ?_; refine bP_ (cs := #[.int .i64 a0_0, .int .i64 0, .slice none 0 0]) ?_ 1 _ rfl; refine BW_ ?_; refine bP_ (cs := #[.int .i64 0, .int .i64 0, .slice none 0 0]) ?_ 0 _ rfl; refine BW_ ?_; refine bR_ ?_ NB102_103.out _; refine BW_ ?_; exact BK102.out) Try.underlying28 rfl (by kernel_rfl)) rfl ?_
 exact ⟨_, F_, by refine SW_ ?_; exact Kd.S_mono (Kd.S_far (p := ⟨gb102, 2, none⟩) (Kd.S_far (p := ⟨gb102, 1, none⟩) (Kd.S_far (p := ⟨gb102, 0, none⟩) (Kd.S_far (p := ⟨gb103, 2, none⟩) (Kd.S_types (Kd.S_types HO106.out BK103.out (by decide)) BK102.out (by decide)) (fun _ hk => hk.1.2) (.slice Ao12 t104.length co12)) (fun _ hk => hk.2) (.int .i64 a0_0)) (fun _ hk => hk.2) (.int .i64 a0_1)) (fun _ hk => hk.2) (.slice Ao12 t104.length co12)) (fun _ hk => trivial), B3_ HB.out GE101.out GE102.out GE103.out⟩
end Go.Proofs.Ytkgajpngeglkmaa.B
/- Words of our own: a row's own block is one of those told (for this claim, by hand). -/
namespace Go.Proofs.YtkgajpngeglkmaaW.PrintWords.Kd
open Go.RowKit
section
variable {α : Type} {d : Kd α} {e base n c : Nat} {ok : Nat → Prop} {W : World} {ad : Addr} {xs : List α}
theorem V_in_ (h : V d e W base ok (.slice (some ad) n c) xs) (hn : 0 < xs.length) (hs : 0 < d.sz) : ok ad.block := by
  obtain ⟨A, c', hv, _, hf⟩ := h
  injection hv with h1 _ _
  exact F_in hf h1.symm hn hs
theorem N_in_ (h : N d e W base ok (.slice (some ad) n c) xs) (_ : 0 < xs.length) (_ : 0 < d.sz) : ok ad.block := h.1 _ rfl
theorem R_in_ (h : d.R e W base ok (.slice (some ad) n c) xs) (_ : 0 < xs.length) (_ : 0 < d.sz) : ok ad.block := h.1 _ rfl
theorem S_in_ (h : S d e W base ok (.slice (some ad) n c) xs) (_ : 0 < xs.length) (_ : 0 < d.sz) : ok ad.block := by
  obtain ⟨f, h⟩ := h
  exact h.1 _ rfl
end
end Go.Proofs.YtkgajpngeglkmaaW.PrintWords.Kd
namespace Go.Proofs.Ytkgajpngeglkmaa.B
open Go.RowKit Go.Proofs.YtkgajpngeglkmaaW.PrintWords Go.Proofs.YtkgajpngeglkmaaW.PrintLast Go.Proofs.YtkgajpngeglkmaaW.PrintMore
attribute [local go_sem] qAh qAf qAn qAm qAc qAb qAg qAe
set_option linter.unusedVariables false
set_option linter.unusedSimpArgs false
def z39.f (k : Nat) (a0_0 : Int) (a0_1 : Int) (l0_2 : List (List Int)) (l1 : List Int) : Option (Bool) := (some (([] : List (List Int)) : List (List Int))).bind fun y101 => (if y101.length + l0_2.length < 5864062014805 then ((some (y101 ++ l0_2 : List (List Int))).bind fun y104 => (if y104.length < 5864062014805 then ((z87.f k a0_0 a0_1 (y104 ++ [l1])).bind fun t110 => (some ((t110.length : Int) == (l0_2.length : Int)))) else (none))) else (none))
def z39.T2 : Bool × List (List Nat × List Nat) := (true, [([], []), ([0], [0]), ([1], [1]), ([2], [2]), ([], []), ([4], [4]), ([5], [5]), ([6], [6]), ([], []), ([3, 7, 8], [3, 7, 8]), ([9], [9]), ([], []), ([11], [11]), ([12], [12]), ([13], [13]), ([14], [14]), ([10, 15], [10, 15]), ([16, 9, 0, 1, 2, 3, 4, 5, 6, 7, 8, 9, 10, 11, 12, 13, 14, 15, 16], [16])])
def z39.B2 : List Nat := [0, 1, 3, 7, 0, 16, 48, 112, 0, 511, 1023, 0, 2048, 6144, 14336, 30720, 65535, 131071]
theorem z39.tab2 : rtab .any (qCk Try.f39 2) = z39.T2 := by kernel_rfl
theorem z39.bits2 : qA9 z39.T2.2 z39.B2 = true := by kernel_rfl
theorem z39.calls (k : Nat) (gp0 : Nat) (a0_0 : Int) (a0_1 : Int) (P0_2_ : Nat → Prop) (A0_2 : Option Addr) (c0_2 : Nat) (l0_2 : List (List Int)) (P1_ : Nat → Prop) (A1 : Option Addr) (c1 : Nat) (l1 : List Int) (r : Bool) (w : World) (hbp0 : w.heap[gp0]? = some (.cells #[.int .i64 a0_0, .int .i64 a0_1, .slice A0_2 l0_2.length c0_2] 28 (0, 0))) (hs0_2 : Kd.V (Kd.slice 2 (Kd.int .i64)) 40 w w.heap.size (fun k_ => P0_2_ k_) (.slice A0_2 l0_2.length c0_2) l0_2) (hs1 : Kd.V (Kd.int .i64) 2 w w.heap.size (fun k_ => P1_ k_) (.slice A1 l1.length c1) l1) (h : z39.f k a0_0 a0_1 l0_2 l1 = some r) :
  Calls Try.prog 39 #[.pointer (some ⟨gp0, 0, none⟩), .slice A1 l1.length c1] w fun e w' => e = .returned (.bool r) ∧ Below w.heap.size w w' := by
 have HO0_2 := Zz.mk (show Kd.V (Kd.slice 2 (Kd.int .i64)) 40 w w.heap.size (fun k_ => ((P0_2_ k_ ∨ P1_ k_) ∨ w.heap.size ≤ k_)) (.slice A0_2 l0_2.length c0_2) l0_2 from Kd.V_mono hs0_2 (fun k_ hk => .inl (.inl hk)))
 have HO1 := Zz.mk (show Kd.V (Kd.int .i64) 2 w w.heap.size (fun k_ => ((P0_2_ k_ ∨ P1_ k_) ∨ w.heap.size ≤ k_)) (.slice A1 l1.length c1) l1 from Kd.V_mono hs1 (fun k_ hk => .inl (.inr hk)))
 have BK50 := Zz.mk hbp0
 clear hbp0
 have HB := Zz.mk (Below.refl w.heap.size w)
 have H : ((some (([] : List (List Int)) : List (List Int))).bind fun y101 => (if y101.length + l0_2.length < 5864062014805 then ((some (y101 ++ l0_2 : List (List Int))).bind fun y104 => (if y104.length < 5864062014805 then ((z87.f k a0_0 a0_1 (y104 ++ [l1])).bind fun t110 => (some ((t110.length : Int) == (l0_2.length : Int)))) else (none))) else (none))) = some r := h
 clear h
 obtain ⟨y101, hy101⟩ : ∃ y_ : List (List Int), y_ = (([] : List (List Int))) := ⟨_, rfl⟩
 replace H : (if y101.length + l0_2.length < 5864062014805 then ((some (y101 ++ l0_2 : List (List Int))).bind fun y104 => (if y104.length < 5864062014805 then ((z87.f k a0_0 a0_1 (y104 ++ [l1])).bind fun t110 => (some ((t110.length : Int) == (l0_2.length : Int)))) else (none))) else (none)) = some r := Y_ hy101 H
 have Ny101 := Zz.mk hy101
 clear hy101
 have c3 := O1_ H
 replace H := O2_ H
 have LMc3 := Zz.mk c3
 clear c3
 obtain ⟨y104, hy104⟩ : ∃ y_ : List (List Int), y_ = (y101 ++ l0_2) := ⟨_, rfl⟩
 replace H : (if y104.length < 5864062014805 then ((z87.f k a0_0 a0_1 (y104 ++ [l1])).bind fun t110 => (some ((t110.length : Int) == (l0_2.length : Int)))) else (none)) = some r := Y_ hy104 H
 have Ny104 := Zz.mk hy104
 clear hy104
 have c4 := O1_ H
 replace H := O2_ H
 have LMc4 := Zz.mk c4
 clear c4
 obtain ⟨y107, hy107⟩ : ∃ y_ : List (List Int), y_ = (y104 ++ [l1]) := ⟨_, rfl⟩
 replace H : ((z87.f k a0_0 a0_1 y107).bind fun t110 => (some ((t110.length : Int) == (l0_2.length : Int)))) = some r := Y_ hy107 H
 have Ny107 := Zz.mk hy107
 clear hy107
 replace H := OZ_ H
 obtain ⟨t110, A5, H⟩ := H
 obtain rfl := OI_ H
 go_enter Try.func39, Try.ntmps39
 try go_wp2_with (first | ((with_reducible refine qAi (N := 6) rfl ?_); refine Kd.N_lit (Kd.slice 2 (Kd.int .i64)) _ 40 ?hg (N' := 6) ?hd (xs := ([] : List (List Int))) (inner := []) (ok := (fun k_ => ((P0_2_ k_ ∨ P1_ k_) ∨ w.heap.size ≤ k_))) (okp := (fun k_ => ((P0_2_ k_ ∨ P1_ k_) ∨ w.heap.size ≤ k_))) ?hr ?hp (fun _ hk => hk) ((show ∀ k_, w.heap.size ≤ k_ → (fun k_ => ((P0_2_ k_ ∨ P1_ k_) ∨ w.heap.size ≤ k_)) k_ from fun k_ hk => (.inr (Nat.le_trans (bS_ (B_ HB.out)) hk))) _ (Nat.le_refl _)) (Below.refl _ _) (Nat.le_refl _) (by simp) ?_; (case hd => rfl); (case hg => rfl); (case hr => first | (go_simp; done) | (go_simp; rfl)); (case hp => exact (Reps.none _ _)); intro v102 w6 ho7 hb hg_ hnew_; clear hg_ hnew_; (first | rw [← Ny101.out] at ho7 | (simp only [Int.reduceToNat] at ho7; rw [← Ny101.out] at ho7)); replace HO0_2 := Zz.mk (Kd.V_elder' (by refine VW_ ?_; exact HO0_2.out) (by first | exact Kd.N_base ho7 | exact Kd.S_base ho7) hb); replace HO1 := Zz.mk (Kd.V_elder' (by refine VW_ ?_; exact HO1.out) (by first | exact Kd.N_base ho7 | exact Kd.S_base ho7) hb); have HO103 := Zz.mk (Kd.N_lower ho7 (bS_ (B_ HB.out))); replace BK50 := Zz.mk (kb_ BK50.out hb); replace HB := Zz.mk (bT_ (B_ HB.out) hb); clear hb ho7; obtain ⟨hcz8_0, hcz8_1, hcz8_2, hfz8_0, hfz8_1, hfz8_2⟩ := Z3f_ BK50.out) | ((with_reducible refine qA0 (b := .append) (xs := #[.tmp 6, .tmp 10]) rfl ?_); at_builtin; refine Kd.N_append_rows (Kd.slice 2 (Kd.int .i64)) (w0 := w) w.heap.size rfl (.tmp 6) (.tmp 10) 22 40 (.slice none 0 0) 24 rfl Try.underlying22 qBs rfl (by decide) (by omega) v102 y101 l0_2 _ _ _ (fun k_ => ((P0_2_ k_ ∨ P1_ k_) ∨ w.heap.size ≤ k_)) (fun k_ => ((fun k_ => ((P0_2_ k_ ∨ P1_ k_) ∨ w.heap.size ≤ k_))) k_ ∧ some k_ ≠ (v102 : Value).ownBlock) rfl rfl ?aO ?aR (fun _ hk => hk) ?aF ?aB ?aS ?aL ?_; (case aR => exact (by skip; exact Kd.V_F (Kd.V_mono (ok' := (fun k_ => ((fun k_ => ((P0_2_ k_ ∨ P1_ k_) ∨ w.heap.size ≤ k_))) k_ ∧ some k_ ≠ (v102 : Value).ownBlock)) (HO0_2.out) (fun k_ hk => ⟨hk.1, hk.2⟩)))); (case aB => exact (B_ HB.out)); (case aF => exact (fun k_ hk => (.inr (Nat.le_trans (bS_ (B_ HB.out)) hk)))); (case aO => exact (KN_ HO103.out)); (case aS => exact (bS_ (B_ HB.out))); (case aL => have := LMc3.out; omega); intro v105 w9 ho hb hg hat; rw [← Ny104.out] at ho; replace BK50 := Zz.mk (qAy (g := gp0) (o := .cells #[.int .i64 a0_0, .int .i64 a0_1, .slice A0_2 l0_2.length c0_2] 28 (0, 0)) (KB_ BK50.out) hg (Kd.N_ne HO103.out BK50.out (by decide))); replace HO0_2 := Zz.mk (Kd.V_afterv (ok := (fun k_ => ((P0_2_ k_ ∨ P1_ k_) ∨ w.heap.size ≤ k_))) (by refine VW_ ?_; exact HO0_2.out) hg hat); replace HO1 := Zz.mk (Kd.V_afterv (ok := (fun k_ => ((P0_2_ k_ ∨ P1_ k_) ∨ w.heap.size ≤ k_))) (by refine VW_ ?_; exact HO1.out) hg hat); replace HB := Zz.mk (hb); have HO106 := Zz.mk (ho); clear HO103; clear ho hb hg hat) | ((with_reducible refine qA0 (b := .append) (xs := #[.tmp 11, .tmp 13]) rfl ?_); at_builtin; refine Kd.N_append (Kd.slice 2 (Kd.int .i64)) (w0 := w) w.heap.size rfl (.tmp 11) (.tmp 13) 22 40 (.slice none 0 0) 24 rfl Try.underlying22 qBs rfl (by decide) (by omega) v105 y104 l1 [.slice A1 l1.length c1] (fun k_ => ((P0_2_ k_ ∨ P1_ k_) ∨ w.heap.size ≤ k_)) (fun k_ => ((fun k_ => ((P0_2_ k_ ∨ P1_ k_) ∨ w.heap.size ≤ k_))) k_ ∧ some k_ ≠ (v105 : Value).ownBlock) rfl rfl ?aP (fun _ hk => hk) ?aF ?aO ?aB ?aS ?aL ?_; (case aP => exact (Kd.FK_slice_mk (Kd.V_reads' (Kd.V_mono (ok' := (fun k_ => ((fun k_ => ((P0_2_ k_ ∨ P1_ k_) ∨ w.heap.size ≤ k_))) k_ ∧ some k_ ≠ (v105 : Value).ownBlock)) (HO1.out) (fun k_ hk => ⟨hk.1, hk.2⟩))).2.1 (Kd.V_F (Kd.V_mono (ok' := (fun k_ => ((fun k_ => ((P0_2_ k_ ∨ P1_ k_) ∨ w.heap.size ≤ k_))) k_ ∧ some k_ ≠ (v105 : Value).ownBlock)) (HO1.out) (fun k_ hk => ⟨hk.1, hk.2⟩))))); (case aB => exact (B_ HB.out)); (case aF => exact (fun k_ hk => (.inr (Nat.le_trans (bS_ (B_ HB.out)) hk)))); (case aO => exact (KN_ HO106.out)); (case aS => exact (bS_ (B_ HB.out))); (case aL => have := LMc4.out; omega); intro v108 w10 ho hb hg hat; rw [← Ny107.out] at ho; replace BK50 := Zz.mk (qAy (g := gp0) (o := .cells #[.int .i64 a0_0, .int .i64 a0_1, .slice A0_2 l0_2.length c0_2] 28 (0, 0)) (KB_ BK50.out) hg (Kd.N_ne HO106.out BK50.out (by decide))); replace HO0_2 := Zz.mk (Kd.V_afterv (ok := (fun k_ => ((P0_2_ k_ ∨ P1_ k_) ∨ w.heap.size ≤ k_))) (by refine VW_ ?_; exact HO0_2.out) hg hat); replace HO1 := Zz.mk (Kd.V_afterv (ok := (fun k_ => ((P0_2_ k_ ∨ P1_ k_) ∨ w.heap.size ≤ k_))) (by refine VW_ ?_; exact HO1.out) hg hat); replace HB := Zz.mk (hb); have HO109 := Zz.mk (ho); clear HO106; clear ho hb hg hat))
 replace HO0_2 := Zz.mk (Kd.V_drew HO0_2.out)
 replace HO1 := Zz.mk (Kd.V_drew HO1.out)
 replace HO109 := Zz.mk (Kd.N_drew HO109.out)
 replace BK50 := Zz.mk (bD_ BK50.out)
 replace HB := Zz.mk (qAj HB.out)
 obtain ⟨Ao12, co12, eo12⟩ := Kd.N_slice HO109.out
 (first | subst eo12 | obtain ⟨rfl, rfl⟩ := sl_ eo12)
 refine qBf (n := 18) (S := fun w' => w'.cell? ⟨gp0, 0, none⟩ = some (.int .i64 a0_0) ∧ w'.cell? ⟨gp0, 1, none⟩ = some (.int .i64 a0_1) ∧ w'.cell? ⟨gp0, 2, none⟩ = some (.slice A0_2 l0_2.length c0_2)) (ds := []) (tb_ 18 0) (by kernel_rfl) rfl rfl (Z3_ BK50.out) (fun hHeld => ?_); refine qAv z39.tab2 z39.bits2 (fun HT_ HW_ => ?_)
 generalize w10.drew = w11 at HO0_2 HO1 HO109 BK50 HB hHeld ⊢
 refine PX_ 0 15 (tb_ 18 1) HT_ rfl rfl ?_
 refine PX_ 1 16 (tb_ 18 3) HT_ rfl rfl ?_
 refine PX_ 2 17 (tb_ 18 7) HT_ rfl rfl ?_
 refine PX_ 4 19 (tb_ 18 23) HT_ rfl rfl ?_
 refine PX_ 5 20 (tb_ 18 55) HT_ rfl rfl ?_
 refine PX_ 6 21 (tb_ 18 119) HT_ rfl rfl ?_
 refine PX_ 8 23 (tb_ 18 375) HT_ rfl rfl ?_
 refine PX_ 11 26 (tb_ 18 2423) HT_ rfl rfl ?_
 refine PX_ 12 27 (tb_ 18 6519) HT_ rfl rfl ?_
 refine PX_ 13 28 (tb_ 18 14711) HT_ rfl rfl ?_
 refine TX_ 3 18 (tb_ 18 14719) HT_ HW_ rfl rfl hHeld ?_
 refine TX_ 7 22 (tb_ 18 14847) HT_ HW_ rfl rfl hHeld ?_
 refine TX_ 14 29 (tb_ 18 31231) HT_ HW_ rfl rfl hHeld ?_
 refine PX_ 15 30 (tb_ 18 63999) HT_ rfl rfl ?_
 refine one_ (i := 9) (N := some 24) (tb_ 18 64511) rfl rfl (qAs HT_.out (by kernel_rfl)) (by decide) (fun K hK => ?_)
 refine GO_ Try.func87 #[.int .i64 a0_0, .int .i64 a0_1, .slice Ao12 y107.length co12] (h := ?_)
 with_reducible refine (z87.calls k a0_0 a0_1 _ _ y107 t110 _ ?side1 ?side2 A5.out).mono ?_
 (case side1 => exact KC_ (Kd.N_reads' HO109.out).2.2)
 (case side2 => exact (Kd.N_reads' HO109.out).2.1)
 rintro e w13 ⟨v111, rfl, ho0, hb⟩
 refine ⟨_, rfl, ?_⟩
 have HO112 := Zz.mk (Kd.N_lower (Kd.N_mono (ok' := fun k_ => ((P0_2_ k_ ∨ P1_ k_) ∨ w.heap.size ≤ k_) ∧ some k_ ≠ (.slice Ao12 y107.length co12 : Value).ownBlock) (Kd.S_N (Kd.S_bound ho0)) (fun k_ hk_ => ⟨(.inr (Nat.le_trans (bS_ (B_ HB.out)) hk_.2.1)), (Kd.fresh' (Kd.N_lt (KN_ HO109.out)) k_ hk_.2.1)⟩)) (bS_ (B_ HB.out)))
 replace HO0_2 := Zz.mk (Kd.V_elder' (by refine VW_ ?_; exact HO0_2.out) (by first | exact Kd.N_base ho0 | exact Kd.S_base ho0) hb)
 replace HO1 := Zz.mk (Kd.V_elder' (by refine VW_ ?_; exact HO1.out) (by first | exact Kd.N_base ho0 | exact Kd.S_base ho0) hb)
 replace HO109 := Zz.mk (Kd.N_elder' (KN_ HO109.out) (by first | exact Kd.N_base ho0 | exact Kd.S_base ho0) hb)
 replace BK50 := Zz.mk (kb_ BK50.out hb)
 replace HB := Zz.mk (bT_ (B_ HB.out) hb)
 (try clear hb);(try clear hk);(try clear ho0)
 obtain ⟨Ao14, co14, eo14⟩ := Kd.N_slice HO112.out
 (first | subst eo14 | obtain ⟨rfl, rfl⟩ := sl_ eo14)
 refine hK.out _ _ (Z3_ BK50.out) (fun hHeld => ?_)
 clear hK K
 refine NM_ (N := (some 24)) (h := ?_)
 refine PX_ 10 25 (tb_ 18 65535) HT_ rfl rfl ?_
 refine PX_ 16 31 (tb_ 18 131071) HT_ rfl rfl ?_
 refine PX_ 17 4 (tb_ 18 262143) HT_ rfl rfl ?_
 refine qB0 (qA4 HT_.out (by kernel_rfl)) ?_
 try go_wp2
 go_ret
 exact ⟨F_, B_ HB.out⟩
def z38.j0 : Nat → Bool → Int → Int → List (List Int) → Int → Int → List (List Int) → Option (Int)
 | 0, _, _, _, _, _, _, _ => none
 | k + 1, x12, x51000, x51001, x51002, x52000, x52001, x52002 => if x12 = true then (some 1) else (if x51000 = x52000 then (if x51001 = x52001 then (some 0) else (some 6)) else (some 6))
def z38.f (k : Nat) (a0_0 : Int) (a0_1 : Int) (l0_2 : List (List Int)) (a1_0 : Int) (a1_1 : Int) (l1_2 : List (List Int)) : Option (Int) := (z50.f k a0_0 a0_1 l0_2).bind fun t101 => (if t101 = true then ((z50.f k a1_0 a1_1 l1_2).bind fun t102 => (z38.j0 k (!t102) a0_0 a0_1 l0_2 a1_0 a1_1 l1_2)) else (z38.j0 k true a0_0 a0_1 l0_2 a1_0 a1_1 l1_2))
theorem z38.calls (k : Nat) (gp0 : Nat) (a0_0 : Int) (a0_1 : Int) (A0_2 : Option Addr) (c0_2 : Nat) (l0_2 : List (List Int)) (gp1 : Nat) (a1_0 : Int) (a1_1 : Int) (A1_2 : Option Addr) (c1_2 : Nat) (l1_2 : List (List Int)) (r : Int) (w : World) (hbp0 : w.heap[gp0]? = some (.cells #[.int .i64 a0_0, .int .i64 a0_1, .slice A0_2 l0_2.length c0_2] 28 (0, 0))) (hbp1 : w.heap[gp1]? = some (.cells #[.int .i64 a1_0, .int .i64 a1_1, .slice A1_2 l1_2.length c1_2] 28 (0, 0))) (hr0_2 : Kd.C (Kd.slice 2 (Kd.int .i64)) w A0_2 l0_2.length l0_2) (hc0_2 : l0_2.length ≤ c0_2) (hr1_2 : Kd.C (Kd.slice 2 (Kd.int .i64)) w A1_2 l1_2.length l1_2) (hc1_2 : l1_2.length ≤ c1_2) (h : z38.f k a0_0 a0_1 l0_2 a1_0 a1_1 l1_2 = some r) :
  Calls Try.prog 38 #[.pointer (some ⟨gp0, 0, none⟩), .pointer (some ⟨gp1, 0, none⟩)] w fun e w' => e = .returned (.int .i64 r) ∧ Below w.heap.size w w' := by
 have HR0_2 := Zz.mk hr0_2
 have HC0_2 := Zz.mk hc0_2
 clear hr0_2 hc0_2
 have HR1_2 := Zz.mk hr1_2
 have HC1_2 := Zz.mk hc1_2
 clear hr1_2 hc1_2
 have BK50 := Zz.mk hbp0
 clear hbp0
 have BK51 := Zz.mk hbp1
 clear hbp1
 have HB := Zz.mk (Below.refl w.heap.size w)
 have H : ((z50.f k a0_0 a0_1 l0_2).bind fun t101 => (if t101 = true then ((z50.f k a1_0 a1_1 l1_2).bind fun t102 => (z38.j0 k (!t102) a0_0 a0_1 l0_2 a1_0 a1_1 l1_2)) else (z38.j0 k true a0_0 a0_1 l0_2 a1_0 a1_1 l1_2))) = some r := h
 clear h
 have HC3 := Zz.mk H
 clear H
 go_enter Try.func38, Try.ntmps38
 go_upto_region 1 with (fail)
 repeat (go_quiet (fail); go_upto_region 1 with (fail))
 go_cut [12] (fun v12 wc => ∃ (kq : Nat) (x12_2 : Bool), v12 = .bool x12_2 ∧ Zz (z38.j0 kq x12_2 a0_0 a0_1 l0_2 a1_0 a1_1 l1_2 = some r) ∧ Zz (kq ≤ k) ∧ Zz (wc.heap[gp0]? = some (.cells #[.int .i64 a0_0, .int .i64 a0_1, (.slice A0_2 l0_2.length c0_2)] 28 (0, 0))) ∧ Zz (wc.heap[gp1]? = some (.cells #[.int .i64 a1_0, .int .i64 a1_1, (.slice A1_2 l1_2.length c1_2)] 28 (0, 0))) ∧ Zz (Below w.heap.size w wc))
 case first =>
  have H := HC3.out
  clear HC3
  replace H := OZ_ H
  obtain ⟨t101, A4, H⟩ := H
  by_cases c5 : t101 = true
  ·subst c5
   replace H := T_ H
   replace H := OZ_ H
   obtain ⟨t102, A6, H⟩ := H
   have H' := Zz.mk H
   clear H
   go_wp2_with (first | (go_at_call 50; (with_reducible refine (z50.calls k gp0 a0_0 a0_1 A0_2 c0_2 l0_2 true _ ?side1 ?side2 ?side3 A4.out).mono ?_); (case side1 => refine BW_ ?_; exact BK50.out); (case side2 => exact KC_ (Kd.C_below HR0_2.out HB.out)); (case side3 => exact HC0_2.out); rintro e w7 ⟨rfl, hb⟩; replace BK50 := Zz.mk (kb_ BK50.out hb); replace BK51 := Zz.mk (kb_ BK51.out hb); replace HB := Zz.mk (bT_ (B_ HB.out) hb); (try clear hb)) | (go_at_call 50; (with_reducible refine (z50.calls k gp1 a1_0 a1_1 A1_2 c1_2 l1_2 t102 _ ?side1 ?side2 ?side3 A6.out).mono ?_); (case side1 => refine BW_ ?_; exact BK51.out); (case side2 => exact KC_ (Kd.C_below HR1_2.out HB.out)); (case side3 => exact HC1_2.out); rintro e w8 ⟨rfl, hb⟩; replace BK50 := Zz.mk (kb_ BK50.out hb); replace BK51 := Zz.mk (kb_ BK51.out hb); replace HB := Zz.mk (bT_ (B_ HB.out) hb); (try clear hb)))
   repeat (go_quiet (first | (go_at_call 50; (with_reducible refine (z50.calls k gp0 a0_0 a0_1 A0_2 c0_2 l0_2 true _ ?side1 ?side2 ?side3 A4.out).mono ?_); (case side1 => refine BW_ ?_; exact BK50.out); (case side2 => exact KC_ (Kd.C_below HR0_2.out HB.out)); (case side3 => exact HC0_2.out); rintro e w7 ⟨rfl, hb⟩; replace BK50 := Zz.mk (kb_ BK50.out hb); replace BK51 := Zz.mk (kb_ BK51.out hb); replace HB := Zz.mk (bT_ (B_ HB.out) hb); (try clear hb)) | (go_at_call 50; (with_reducible refine (z50.calls k gp1 a1_0 a1_1 A1_2 c1_2 l1_2 t102 _ ?side1 ?side2 ?side3 A6.out).mono ?_); (case side1 => refine BW_ ?_; exact BK51.out); (case side2 => exact KC_ (Kd.C_below HR1_2.out HB.out)); (case side3 => exact HC1_2.out); rintro e w8 ⟨rfl, hb⟩; replace BK50 := Zz.mk (kb_ BK50.out hb); replace BK51 := Zz.mk (kb_ BK51.out hb); replace HB := Zz.mk (bT_ (B_ HB.out) hb); (try clear hb))); try go_wp2_with (first | (go_at_call 50; (with_reducible refine (z50.calls k gp0 a0_0 a0_1 A0_2 c0_2 l0_2 true _ ?side1 ?side2 ?side3 A4.out).mono ?_); (case side1 => refine BW_ ?_; exact BK50.out); (case side2 => exact KC_ (Kd.C_below HR0_2.out HB.out)); (case side3 => exact HC0_2.out); rintro e w7 ⟨rfl, hb⟩; replace BK50 := Zz.mk (kb_ BK50.out hb); replace BK51 := Zz.mk (kb_ BK51.out hb); replace HB := Zz.mk (bT_ (B_ HB.out) hb); (try clear hb)) | (go_at_call 50; (with_reducible refine (z50.calls k gp1 a1_0 a1_1 A1_2 c1_2 l1_2 t102 _ ?side1 ?side2 ?side3 A6.out).mono ?_); (case side1 => refine BW_ ?_; exact BK51.out); (case side2 => exact KC_ (Kd.C_below HR1_2.out HB.out)); (case side3 => exact HC1_2.out); rintro e w8 ⟨rfl, hb⟩; replace BK50 := Zz.mk (kb_ BK50.out hb); replace BK51 := Zz.mk (kb_ BK51.out hb); replace HB := Zz.mk (bT_ (B_ HB.out) hb); (try clear hb))))
   go_meet
   case rel => exact ⟨_, (!t102), E_, H', ⟨by first | omega | exact Nat.le_refl _⟩, ⟨KB_ BK50.out⟩, ⟨KB_ BK51.out⟩, ⟨B_ HB.out⟩⟩
  replace c5 := Bool.eq_false_iff.mpr c5
  subst c5
  replace H := N_ H
  have H' := Zz.mk H
  clear H
  go_wp2_with (first | (go_at_call 50; (with_reducible refine (z50.calls k gp0 a0_0 a0_1 A0_2 c0_2 l0_2 false _ ?side1 ?side2 ?side3 A4.out).mono ?_); (case side1 => refine BW_ ?_; exact BK50.out); (case side2 => exact KC_ (Kd.C_below HR0_2.out HB.out)); (case side3 => exact HC0_2.out); rintro e w9 ⟨rfl, hb⟩; replace BK50 := Zz.mk (kb_ BK50.out hb); replace BK51 := Zz.mk (kb_ BK51.out hb); replace HB := Zz.mk (bT_ (B_ HB.out) hb); (try clear hb)))
  repeat (go_quiet (first | (go_at_call 50; (with_reducible refine (z50.calls k gp0 a0_0 a0_1 A0_2 c0_2 l0_2 false _ ?side1 ?side2 ?side3 A4.out).mono ?_); (case side1 => refine BW_ ?_; exact BK50.out); (case side2 => exact KC_ (Kd.C_below HR0_2.out HB.out)); (case side3 => exact HC0_2.out); rintro e w9 ⟨rfl, hb⟩; replace BK50 := Zz.mk (kb_ BK50.out hb); replace BK51 := Zz.mk (kb_ BK51.out hb); replace HB := Zz.mk (bT_ (B_ HB.out) hb); (try clear hb))); try go_wp2_with (first | (go_at_call 50; (with_reducible refine (z50.calls k gp0 a0_0 a0_1 A0_2 c0_2 l0_2 false _ ?side1 ?side2 ?side3 A4.out).mono ?_); (case side1 => refine BW_ ?_; exact BK50.out); (case side2 => exact KC_ (Kd.C_below HR0_2.out HB.out)); (case side3 => exact HC0_2.out); rintro e w9 ⟨rfl, hb⟩; replace BK50 := Zz.mk (kb_ BK50.out hb); replace BK51 := Zz.mk (kb_ BK51.out hb); replace HB := Zz.mk (bT_ (B_ HB.out) hb); (try clear hb))))
  go_meet
  case rel => exact ⟨_, (true), E_, H', ⟨by first | omega | exact Nat.le_refl _⟩, ⟨KB_ BK50.out⟩, ⟨KB_ BK51.out⟩, ⟨B_ HB.out⟩⟩
 case rest =>
  clear HC3
  obtain ⟨kq, x12_2, rfl, HA, HJ2, BK50, BK51, HB⟩ := hcut
  cases kq with
  | zero => exact absurd HA.out (by simp [z38.j0])
  | succ kj2 =>
   have H := HA.out
   clear HA
   simp only [z38.j0] at H
   by_cases c10 : x12_2 = true
   ·subst c10
    replace H := T_ H
    obtain rfl := OI_ H
    go_wp2
    repeat (go_quiet (fail); try go_wp2)
    go_ret
    exact ⟨F_, B_ HB.out⟩
   replace c10 := Bool.eq_false_iff.mpr c10
   subst c10
   replace H := N_ H
   by_cases c11 : a0_0 = a1_0
   ·rw [if_pos c11] at H
    have c11b0 : (a0_0 == a1_0) = true := beq_iff_eq.mpr c11
    have c11b1 : (a0_0 != a1_0) = false := bne_eq_false_iff_eq.mpr c11
    clear c11
    by_cases c12 : a0_1 = a1_1
    ·rw [if_pos c12] at H
     have c12b0 : (a0_1 == a1_1) = true := beq_iff_eq.mpr c12
     have c12b1 : (a0_1 != a1_1) = false := bne_eq_false_iff_eq.mpr c12
     clear c12
     obtain rfl := OI_ H
     obtain ⟨hcz13_0, hcz13_1, hcz13_2, hfz13_0, hfz13_1, hfz13_2⟩ := Z3f_ BK50.out
     obtain ⟨hcz14_0, hcz14_1, hcz14_2, hfz14_0, hfz14_1, hfz14_2⟩ := Z3f_ BK51.out
     go_wp2
     repeat (go_quiet (fail); try go_wp2)
     go_ret
     exact ⟨F_, B_ HB.out⟩
    rw [if_neg c12] at H
    have c12b0 : (a0_1 == a1_1) = false := beq_eq_false_iff_ne.mpr c12
    have c12b1 : (a0_1 != a1_1) = true := bne_iff_ne.mpr c12
    obtain rfl := OI_ H
    obtain ⟨hcz15_0, hcz15_1, hcz15_2, hfz15_0, hfz15_1, hfz15_2⟩ := Z3f_ BK50.out
    obtain ⟨hcz16_0, hcz16_1, hcz16_2, hfz16_0, hfz16_1, hfz16_2⟩ := Z3f_ BK51.out
    go_wp2
    repeat (go_quiet (fail); try go_wp2)
    go_ret
    exact ⟨F_, B_ HB.out⟩
   rw [if_neg c11] at H
   have c11b0 : (a0_0 == a1_0) = false := beq_eq_false_iff_ne.mpr c11
   have c11b1 : (a0_0 != a1_0) = true := bne_iff_ne.mpr c11
   obtain rfl := OI_ H
   obtain ⟨hcz17_0, hcz17_1, hcz17_2, hfz17_0, hfz17_1, hfz17_2⟩ := Z3f_ BK50.out
   obtain ⟨hcz18_0, hcz18_1, hcz18_2, hfz18_0, hfz18_1, hfz18_2⟩ := Z3f_ BK51.out
   go_wp2
   repeat (go_quiet (fail); try go_wp2)
   go_ret
   exact ⟨F_, B_ HB.out⟩
end Go.Proofs.Ytkgajpngeglkmaa.B
/- Small tools for what the printed functions come to: pure Lean, no program in sight (for this claim, by hand). -/
set_option linter.unusedVariables false
set_option linter.unusedSimpArgs false
namespace Go.Proofs.Ytkgajpngeglkmaa.B
open Go.RowKit Go.Proofs.YtkgajpngeglkmaaW.PrintWords
theorem qAa {α : Type} {c : Prop} [Decidable c] {t f : Nat → Option α} {r : α} (h : c) (e : Ev t r) : Ev (fun k => if c then t k else f k) r := by
  simp only [if_pos h]; exact e
theorem qAd {α : Type} {c : Prop} [Decidable c] {t f : Nat → Option α} {r : α} (h : ¬ c) (e : Ev f r) : Ev (fun k => if c then t k else f k) r := by
  simp only [if_neg h]; exact e
theorem qAt {α : Type} {x : Option α} {r : α} (h : x = some r) : Ev (fun _ => x) r := ⟨0, fun _ _ => h⟩
theorem qBa {α : Type} {g : Nat → Option α} {r r' : α} (h : Ev g r) (e : r = r') : Ev g r' := e ▸ h
def Le {α : Type} (g f : Nat → Option α) : Prop := ∀ r, Ev g r → Ev f r
theorem Le.refl {α : Type} (g : Nat → Option α) : Le g g := fun _ h => h
theorem Le.trans {α : Type} {g f e : Nat → Option α} (h : Le g f) (h' : Le f e) : Le g e := fun r hr => h' r (h r hr)
def iter {σ : Type} (F : Nat → σ → σ) : Nat → Nat → σ → σ
  | _, 0, s => s
  | i, d + 1, s => iter F (i + 1) d (F i s)
theorem qKw {σ β : Type} (L : σ → Nat → Nat → Option β) (F : Nat → σ → σ) : ∀ (d i : Nat) (s : σ), (∀ j s, i ≤ j → j < i + d → Le (L (F j s) (j + 1)) (L s j)) → Le (L (iter F i d s) (i + d)) (L s i)
  | 0, i, s, _ => Le.refl _
  | d + 1, i, s, h => by
    have ih := qKw L F d (i + 1) (F i s) (fun j s h1 h2 => h j s (by omega) (by omega))
    rw [show i + 1 + d = i + (d + 1) by omega] at ih
    exact ih.trans (h i s (Nat.le_refl _) (by omega))
theorem qC1 {σ β : Type} (L : σ → Nat → Nat → Option β) (F : Nat → σ → σ) (I : Nat → σ → Prop) : ∀ (d i : Nat) (s : σ), I i s → (∀ j s, i ≤ j → j < i + d → I j s → Le (L (F j s) (j + 1)) (L s j) ∧ I (j + 1) (F j s)) → Le (L (iter F i d s) (i + d)) (L s i) ∧ I (i + d) (iter F i d s)
  | 0, i, s, hI, _ => ⟨Le.refl _, hI⟩
  | d + 1, i, s, hI, h => by
    obtain ⟨h0, hI1⟩ := h i s (Nat.le_refl _) (by omega) hI
    have ih := qC1 L F I d (i + 1) (F i s) hI1 (fun j s h1 h2 => h j s (by omega) (by omega))
    rw [show i + 1 + d = i + (d + 1) by omega] at ih
    exact ⟨ih.1.trans h0, ih.2⟩
theorem qJx {σ : Type} (F : Nat → σ → σ) (I : Nat → σ → Prop) : ∀ (d i : Nat) (s : σ), I i s → (∀ j s, i ≤ j → j < i + d → I j s → I (j + 1) (F j s)) → I (i + d) (iter F i d s)
  | 0, i, s, hI, _ => hI
  | d + 1, i, s, hI, h => by
    have ih := qJx F I d (i + 1) (F i s) (h i s (Nat.le_refl _) (by omega) hI) (fun j s h1 h2 => h j s (by omega) (by omega))
    rw [show i + 1 + d = i + (d + 1) by omega] at ih
    exact ih
theorem qH8 {σ : Type} {F G : Nat → σ → σ} : ∀ (d i : Nat) (s : σ), (∀ j s, i ≤ j → j < i + d → F j s = G j s) → iter F i d s = iter G i d s
  | 0, i, s, _ => rfl
  | d + 1, i, s, h => by
    simp only [iter]
    rw [h i s (Nat.le_refl _) (by omega)]
    exact qH8 d (i + 1) _ (fun j s h1 h2 => h j s (by omega) (by omega))
theorem qHt {σ : Type} (F : Nat → σ → σ) : ∀ (d e i : Nat) (s : σ), iter F i (d + e) s = iter F (i + d) e (iter F i d s)
  | 0, e, i, s => by simp [iter]
  | d + 1, e, i, s => by
    rw [show d + 1 + e = d + e + 1 by omega]
    simp only [iter]
    rw [qHt F d e (i + 1) (F i s), show i + 1 + d = i + (d + 1) by omega]
theorem iter_last {σ : Type} (F : Nat → σ → σ) (d i : Nat) (s : σ) : iter F i (d + 1) s = F (i + d) (iter F i d s) := by
  rw [qHt F d 1 i s]; rfl
theorem qC3 {β : Type} {r : β} (L : Nat → Nat → Option β) (p : Nat → Bool) : ∀ (d i : Nat), (∀ j, i ≤ j → j < i + d → p j = false → Le (L (j + 1)) (L j)) →
    (∀ j, i ≤ j → j < i + d → p j = true → (∀ m, i ≤ m → m < j → p m = false) → Ev (L j) r) → ((∀ m, i ≤ m → m < i + d → p m = false) → Ev (L (i + d)) r) → Ev (L i) r
  | 0, i, _, _, he => he (fun m h1 h2 => by omega)
  | d + 1, i, h0, h1, he => by
    cases hp : p i with
    | true => exact h1 i (Nat.le_refl _) (by omega) hp (fun m h1 h2 => by omega)
    | false =>
      refine h0 i (Nat.le_refl _) (by omega) hp r (qC3 L p d (i + 1) (fun j a b => h0 j (by omega) (by omega)) (fun j a b c e => h1 j (by omega) (by omega) c (fun m u v => ?_)) (fun e => ?_))
      · rcases Nat.eq_or_lt_of_le u with rfl | u
        · exact hp
        exact e m u v
      rw [show i + 1 + d = i + (d + 1) by omega]
      refine he (fun m u v => ?_)
      rcases Nat.eq_or_lt_of_le u with rfl | u
      · exact hp
      exact e m u (by omega)
theorem qEq {α : Type} (xs : List α) (z : α) (p : α → Bool) : (List.range xs.length).all (fun i => p (xs.getD i z)) = xs.all p := by
  rw [Bool.eq_iff_iff, List.all_eq_true, List.all_eq_true]
  constructor
  · intro h x hx
    obtain ⟨i, hi, rfl⟩ := List.mem_iff_getElem.1 hx
    have := h i (List.mem_range.2 hi)
    rwa [List.getD_eq_getElem?_getD, List.getElem?_eq_getElem hi] at this
  intro h i hi
  have hi := List.mem_range.1 hi
  rw [List.getD_eq_getElem?_getD, List.getElem?_eq_getElem hi]
  exact h _ (List.getElem_mem hi)
theorem qEm (L : Nat → Nat → Option Bool) (p : Nat → Bool) (n : Nat) (h1 : ∀ j, j < n → p j = true → Le (L (j + 1)) (L j)) (h0 : ∀ j, j < n → p j = false → Ev (L j) false) (he : Ev (L n) true) : Ev (L 0) ((List.range n).all p) := by
  refine qC3 L (fun j => !p j) n 0 (fun j _ hj hp => h1 j (by omega) (by simpa using hp)) (fun j _ hj hp _ => ?_) (fun h => ?_)
  · have hp' : p j = false := by simpa using hp
    have : (List.range n).all p = false := by
      rw [Bool.eq_false_iff]
      intro h
      have := List.all_eq_true.1 h j (List.mem_range.2 (by omega))
      rw [hp'] at this; cases this
    rw [this]
    exact h0 j (by omega) hp'
  have : (List.range n).all p = true := List.all_eq_true.2 (fun j hj => by simpa using h j (Nat.zero_le _) (by have := List.mem_range.1 hj; omega))
  rw [this, Nat.zero_add]
  exact he
theorem qHf {α : Type} (xs : List α) (z : α) (L : Nat → Nat → Option Bool) (p : α → Bool) (h1 : ∀ j, j < xs.length → p (xs.getD j z) = true → Le (L (j + 1)) (L j)) (h0 : ∀ j, j < xs.length → p (xs.getD j z) = false → Ev (L j) false) (he : Ev (L xs.length) true) : Ev (L 0) (xs.all p) := by
  rw [← qEq xs z]
  exact qEm L (fun j => p (xs.getD j z)) xs.length h1 h0 he
theorem least {q : Nat → Prop} (h : ∃ j, q j) : ∃ j, q j ∧ ∀ m, m < j → ¬ q m := by
  obtain ⟨j, hj⟩ := h
  induction j using Nat.strongRecOn with
  | _ j ih =>
    by_cases hm : ∃ m, m < j ∧ q m
    · obtain ⟨m, h1, h2⟩ := hm
      exact ih m h1 h2
    exact ⟨j, hj, fun m h1 h2 => hm ⟨m, h1, h2⟩⟩
theorem qJ0 (L : Nat → Nat → Option Int) (p : Nat → Bool) (n : Nat) (h0 : ∀ j, j < n → p j = false → Le (L (j + 1)) (L j)) (h1 : ∀ j, j < n → p j = true → Ev (L j) (j : Int)) (he : Ev (L n) (-1)) : ∃ t : Int, Ev (L 0) t ∧ decide (t ≥ 0) = (List.range n).any p := by
  by_cases h : ∃ j, j < n ∧ p j = true
  · obtain ⟨j, ⟨hj, hp⟩, hmin⟩ : ∃ j, (j < n ∧ p j = true) ∧ ∀ m, m < j → ¬ (m < n ∧ p m = true) := by
      exact least h
    refine ⟨j, ?_, ?_⟩
    · refine qC3 L p n 0 (fun i _ hi hpi => h0 i (by omega) hpi) (fun i _ hi hpi hbef => ?_) (fun hall => ?_)
      · have : i = j := by
          rcases Nat.lt_trichotomy i j with hlt | he | hlt
          · exact absurd ⟨by omega, hpi⟩ (hmin i hlt)
          · exact he
          have := hbef j (Nat.zero_le _) hlt; rw [hp] at this; cases this
        subst this
        exact h1 i hj hp
      have := hall j (Nat.zero_le _) (by omega); rw [hp] at this; cases this
    have : (List.range n).any p = true := List.any_eq_true.2 ⟨j, List.mem_range.2 hj, hp⟩
    rw [this]; simp
  have hno : ∀ j, j < n → p j = false := fun j hj => by
    cases hp : p j with
    | true => exact absurd ⟨j, hj, hp⟩ h
    | false => rfl
  refine ⟨-1, ?_, ?_⟩
  · refine qC3 L p n 0 (fun i _ hi hpi => h0 i (by omega) hpi) (fun i _ hi hpi hbef => ?_) (fun _ => by rw [Nat.zero_add]; exact he)
    have := hno i (by omega); rw [hpi] at this; cases this
  have : (List.range n).any p = false := by
    rw [Bool.eq_false_iff]
    intro hc
    obtain ⟨j, hj, hp⟩ := List.any_eq_true.1 hc
    have := hno j (List.mem_range.1 hj); rw [hp] at this; cases this
  rw [this]; rfl
theorem qGw {α : Type} (xs : List α) (z : α) (p : α → Bool) : (List.range xs.length).any (fun i => p (xs.getD i z)) = xs.any p := by
  have h := qEq xs z (fun x => !p x)
  rw [List.any_eq_not_all_not, List.any_eq_not_all_not, h]
theorem qB5 {α : Type} (xs : List α) (z : α) (L : Nat → Nat → Option Int) (p : α → Bool) (h0 : ∀ j, j < xs.length → p (xs.getD j z) = false → Le (L (j + 1)) (L j)) (h1 : ∀ j, j < xs.length → p (xs.getD j z) = true → Ev (L j) (j : Int)) (he : Ev (L xs.length) (-1)) : ∃ t : Int, Ev (L 0) t ∧ decide (t ≥ 0) = xs.any p := by
  rw [← qGw xs z]
  exact qJ0 L (fun j => p (xs.getD j z)) xs.length h0 h1 he
theorem qAq {x : Int} (h0 : -9223372036854775808 ≤ x) (h1 : x ≤ 9223372036854775807) : wrap64 x = x := by
  unfold wrap64; omega
theorem qAo {i : Nat} (h : i < 9223372036854775807) : wrap64 ((i : Int) + 1) = ((i + 1 : Nat) : Int) := by
  unfold wrap64; omega
theorem qBc (xs : List Int) (i : Nat) : rd xs (i : Int) = xs.getD i 0 := by simp [rd]
theorem rdOf_nat {α : Type} (z : α) (xs : List α) (i : Nat) : rdOf z xs (i : Int) = xs.getD i z := by simp [rdOf]
theorem qFb {α : Type} (l : List α) (i : Nat) (z : α) (hi : i < l.length) (y : α) (hy : y = l.getD i z) : (l.take i ++ List.replicate (l.length - i) z).set i y = l.take (i + 1) ++ List.replicate (l.length - (i + 1)) z := by
  have h1 : (l.take i).length = i := by rw [List.length_take]; omega
  rw [List.set_append_right _ _ (by omega), h1, Nat.sub_self, show l.length - i = (l.length - (i + 1)) + 1 by omega, List.replicate_succ, List.set_cons_zero, List.take_succ_eq_append_getElem hi, List.append_assoc]
  subst hy
  simp [List.getElem?_eq_getElem hi]
def qA2 : List Int → Int → List Int
  | [], _ => []
  | _ :: l, a => a :: qA2 l (a + 1)
def qA1 : List (List Int) → Int → List (List Int)
  | [], _ => []
  | l :: ls, a => qA2 l a :: qA1 ls (a + l.length)
def total : List (List Int) → Int
  | [] => 0
  | l :: ls => l.length + total ls
theorem qBd : ∀ ls, 0 ≤ total ls
  | [] => Int.le_refl _
  | l :: ls => by have := qBd ls; simp only [total]; omega
theorem qB3 : ∀ l m : List (List Int), total (l ++ m) = total l + total m
  | [], m => by simp [total]
  | x :: l, m => by simp only [List.cons_append, total, qB3 l m]; omega
theorem qCb : ∀ (l : List Int) (a : Int), (qA2 l a).length = l.length
  | [], _ => rfl
  | _ :: l, a => by simp [qA2, qCb l]
theorem qBi : ∀ (l : List (List Int)) (a : Int), (qA1 l a).length = l.length
  | [], _ => rfl
  | _ :: l, a => by simp [qA1, qBi l]
theorem qEk : ∀ (l m : List Int) (a : Int), qA2 (l ++ m) a = qA2 l a ++ qA2 m (a + l.length)
  | [], m, a => by simp [qA2]
  | _ :: l, m, a => by simp only [List.cons_append, qA2, qEk l m, List.length_cons]; congr 3; push_cast; omega
theorem qCs : ∀ (l m : List (List Int)) (a : Int), qA1 (l ++ m) a = qA1 l a ++ qA1 m (a + total l)
  | [], m, a => by simp [qA1, total]
  | x :: l, m, a => by simp only [List.cons_append, qA1, qCs l m, total]; congr 3; omega
end Go.Proofs.Ytkgajpngeglkmaa.B
namespace Go.Proofs.Ytkgajpngeglkmaa.B
open Go.RowKit Go.Proofs.YtkgajpngeglkmaaW.PrintWords Go.Proofs.YtkgajpngeglkmaaW.PrintLast Go.Proofs.YtkgajpngeglkmaaW.PrintMore
attribute [local go_sem] qAh qAf qAn qAm qAc qAb qAg qAe
set_option linter.unusedVariables false
set_option linter.unusedSimpArgs false
def z48.l0 : Nat → List Int → Int → Int → Option (Int × List Int)
 | 0, _, _, _ => none
 | k + 1, x0, x1, x5 => if x5 < (x0.length : Int) then (if 0 ≤ x5 then (z48.l0 k (x0.set (x5 : Int).toNat x1) (wrap64 (x1 + 1)) (wrap64 (x5 + 1))) else (none)) else (some (x1, x0))
def z48.f (k : Nat) (l0 : List Int) (a1 : Int) : Option (Int × List Int) := z48.l0 k l0 a1 0
theorem z48.calls (k : Nat) (P0_ : Nat → Prop) (u9000_ : Value) (l0 : List Int) (a1 : Int) (r1 : Int) (r2 : List Int) (w0 w : World) (hB : Below w0.heap.size w0 w) (ho0 : Kd.R (Kd.int .i64) 2 w w0.heap.size P0_ u9000_ l0) (h : z48.f k l0 a1 = some (r1, r2)) :
  Calls Try.prog 48 #[u9000_, .int .i64 a1] w fun e w' => e = .returned (.int .i64 r1) ∧ Kd.R (Kd.int .i64) 2 w' w0.heap.size (fun k_ => (P0_ k_ ∨ w.heap.size ≤ k_)) u9000_ r2 ∧ Below w0.heap.size w0 w' ∧ Kept w w' (fun k_ => P0_ k_) := by
 have HO0 := Zz.mk (show Kd.R (Kd.int .i64) 2 w w0.heap.size (fun k_ => (P0_ k_ ∨ w.heap.size ≤ k_)) u9000_ l0 from Kd.R_mono ho0 (fun k_ hk => (.inl hk)))
 have HK := Zz.mk (Kept.refl w (fun k_ => P0_ k_))
 have HW0 := Zz.mk hB.size
 have HB := Zz.mk hB
 clear hB
 have H : (z48.l0 k l0 a1 0) = some (r1, r2) := h
 clear h
 have H' := Zz.mk H
 clear H
 go_enter Try.func48, Try.ntmps48
 go_wp2
 go_loopg [1, 5] k (fun kq v1 v5 w' => ∃ (x0_1 : List Int) (x1_1 : Int) (x5_1 : Int), v1 = .int .i64 x1_1 ∧ v5 = .int .i64 x5_1 ∧ Zz (z48.l0 kq x0_1 x1_1 x5_1 = some (r1, r2)) ∧ Zz (kq ≤ k) ∧ Zz (Kd.R (Kd.int .i64) 2 w' w0.heap.size (fun k_ => (P0_ k_ ∨ w.heap.size ≤ k_)) u9000_ x0_1) ∧ Zz (Kept w w' (fun k_ => P0_ k_)) ∧ Zz (Below w0.heap.size w0 w'))
 case atStart => exact ⟨(l0), (a1), (0), E_, E_, H', ⟨Nat.le_refl _⟩, ⟨KR_ HO0.out⟩, ⟨by repeat (first | (with_reducible first | exact HK.out | apply Kept.alloc | apply Kept.drewN | apply Kept.drew) | exact HK.out)⟩, ⟨B_ HB.out⟩⟩
 case round =>
  clear H'
  obtain ⟨x0_1, x1_1, x5_1, rfl, rfl, HA, HK1, HO_0, HK, HB⟩ := hrel
  cases gk with
  | zero => exact absurd HA.out (by simp [z48.l0])
  | succ k1 =>
   have H := HA.out
   clear HA
   simp only [z48.l0] at H
   by_cases c3 : x5_1 < (x0_1.length : Int)
   ·rw [if_pos c3] at H
    have c3b0 : decide (x5_1 < (x0_1.length : Int)) = true := decide_eq_true c3
    clear c3
    have c4b0 := O3_ H
    replace H := O2_ H
    obtain ⟨y101, hy101⟩ : ∃ y_ : List Int, y_ = (x0_1.set (x5_1 : Int).toNat x1_1) := ⟨_, rfl⟩
    replace H : (z48.l0 k1 y101 (wrap64 (x1_1 + 1)) (wrap64 (x5_1 + 1))) = some (r1, r2) := Y_ hy101 H
    have Ny101 := Zz.mk hy101
    clear hy101
    have H' := Zz.mk H
    clear H
    obtain ⟨Ao6, co6, eo6⟩ := Kd.R_slice HO_0.out
    subst eo6
    have p5 : 0 ≤ (x5_1 : Int) := D_
    have q5 : (x5_1 : Int) < ((x0_1.length : Int) : Int) := D_
    obtain ⟨go5, co5, eo5, gb5, gl5, cl5, HG5⟩ := Kd.R_form HO_0.out (by omega)
    (first | cases eo5 | (injection eo5 with ea_ en_ ec_; (first | subst ea_ | (injection ea_ with ea_; subst ea_)); subst ec_; clear en_))
    have GB5 := Zz.mk gb5
    have GG5 := Zz.mk HG5
    clear gb5 gl5 HG5
    have HMgo5 := Zz.mk (show (P0_ go5 ∨ w.heap.size ≤ go5) from (HO_0.out.1 _ rfl))
    obtain ⟨hx5_0, hf5_0⟩ := Kd.R_celln 0 HO_0.out (x5_1 : Int) p5 q5
    replace p5 := eq_true p5
    replace q5 := eq_true q5
    have HP7 := Kd.R_putg HO_0.out (x5_1 : Int) x1_1
    go_wp2_with (first | ((with_reducible refine qB7 (t := 2) (p := 15) rfl ?_); refine qB1 (t := 2) (p := 15) (v := ?vo_w8) (w1 := (wr.setCell ⟨go5, (x5_1 : Int).toNat, none⟩ (.int .i64 x1_1))) ?hg ?ho ?hn ?hr ?_; (case ho => rfl); (case hg => rfl); (case hn => rfl); (case hr => first | (go_simp; done) | (go_simp; rfl)); intro w8 hw; have hg : wr.grownBy w8 (some go5) := (by rw [hw]; exact HP7.2); have hp_ : Kd.R (Kd.int .i64) 2 w8 w0.heap.size (fun k_ => (P0_ k_ ∨ w.heap.size ≤ k_)) (.slice (some ⟨go5, 0, none⟩) x0_1.length co6) y101 := (by rw [hw, Ny101.out]; exact HP7.1); clear HP7; replace HB := Zz.mk ((by rw [hw]; exact qAp (HB.out) GB5.out : Below w0.heap.size w0 w8)); replace HK := Zz.mk (Kept.of_grown (S := (fun k_ => P0_ k_)) hg (by repeat (first | (with_reducible first | exact HK.out | apply Kept.alloc | apply Kept.drewN | apply Kept.drew) | exact HK.out)) (fun k_ e_ => (HO_0.out.1 k_ e_))); replace HO_0 := Zz.mk (hp_); clear hg hw hp_))
    go_roundg k1
    case measure => exact Q1_ HK1
    case rel => exact ⟨(y101), (wrap64 (x1_1 + 1)), (wrap64 (x5_1 + 1)), E_, E_, H', ⟨Q1_ HK1⟩, ⟨KR_ HO_0.out⟩, ⟨by repeat (first | (with_reducible first | exact HK.out | apply Kept.alloc | apply Kept.drewN | apply Kept.drew) | exact HK.out)⟩, ⟨B_ HB.out⟩⟩
   rw [if_neg c3] at H
   have c3b0 : decide (x5_1 < (x0_1.length : Int)) = false := decide_eq_false c3
   clear c3
   simp only [Option.some.injEq, Prod.mk.injEq] at H
   obtain ⟨rfl, rfl⟩ := H
   obtain ⟨Ao9, co9, eo9⟩ := Kd.R_slice HO_0.out
   subst eo9
   go_wp2
   go_ret
   exact ⟨F_, KR_ HO_0.out, B_ HB.out, by repeat (first | (with_reducible first | exact HK.out | apply Kept.alloc | apply Kept.drewN | apply Kept.drew) | exact HK.out)⟩
end Go.Proofs.Ytkgajpngeglkmaa.B
/- The marks that the exact laws write into a row of rows: proved by hand (the printer takes flat rows alone). -/
set_option linter.unusedVariables false
set_option linter.unusedSimpArgs false
namespace Go.Proofs.Ytkgajpngeglkmaa.B
open Go.RowKit Go.Proofs.YtkgajpngeglkmaaW.PrintWords Go.Proofs.YtkgajpngeglkmaaW.PrintLast Go.Proofs.YtkgajpngeglkmaaW.PrintMore
theorem qDg : ∀ (d : Nat) (xs : List Int) (pre post : List Int) (a : Int), post.length = d → xs = pre ++ post → 0 ≤ a → a + d ≤ 9223372036854775807 → (xs.length : Int) ≤ 9223372036854775807 →
    Ev (fun k => z48.l0 k xs a (pre.length : Int)) (a + d, pre ++ qA2 post a)
  | 0, xs, pre, post, a, hd, hx, h0, h1, hl => by
    have hp : post = [] := List.eq_nil_of_length_eq_zero hd
    subst hp
    refine Ev.step (f := fun _ => some (a, xs)) (fun k => ?_) ?_
    · simp only [z48.l0]
      rw [if_neg (by subst hx; simp)]
    subst hx
    simpa [qA2] using Ev.now (a, pre ++ ([] : List Int))
  | d + 1, xs, pre, post, a, hd, hx, h0, h1, hl => by
    obtain ⟨y, post, rfl⟩ : ∃ y p, post = y :: p := by cases post with | nil => simp at hd | cons y p => exact ⟨y, p, rfl⟩
    have ih := qDg d (xs.set pre.length a) (pre ++ [a]) post (a + 1) (by simpa using hd) (by subst hx; simp) (by omega) (by omega) (by simpa using hl)
    refine Ev.step (f := fun k => z48.l0 k (xs.set pre.length a) (a + 1) ((pre ++ [a]).length : Int)) (fun k => ?_) ?_
    · simp only [z48.l0]
      have hlen : (xs.length : Int) = pre.length + (post.length + 1) := by subst hx; simp
      rw [if_pos (by omega), if_pos (by omega)]
      congr 1
      · unfold wrap64; omega
      simp only [List.length_append, List.length_singleton]; unfold wrap64; omega
    have e : (a + ((d : Nat) + 1 : Nat) : Int) = a + 1 + d := by omega
    rw [e]
    simpa [qA2] using ih
theorem qE1 (l : List Int) (a : Int) (h0 : 0 ≤ a) (h1 : a + l.length ≤ 9223372036854775807) : ∃ k, z48.f k l a = some (a + l.length, qA2 l a) := by
  have := (qDg l.length l [] l a rfl rfl h0 h1 (by omega)).rounds
  simpa [z48.f] using this
def laws_markInt64SS.f (l0 : List (List Int)) (a1 : Int) : Option (Int × List (List Int)) :=
  if 0 ≤ a1 ∧ a1 + total l0 ≤ 9223372036854775807 then some (a1 + total l0, qA1 l0 a1) else none
theorem laws_markInt64SS.inv {l0 : List (List Int)} {a1 r1 : Int} {r2 : List (List Int)} (h : laws_markInt64SS.f l0 a1 = some (r1, r2)) : 0 ≤ a1 ∧ a1 + total l0 ≤ 9223372036854775807 ∧ a1 + total l0 = r1 ∧ qA1 l0 a1 = r2 := by
  unfold laws_markInt64SS.f at h
  split at h
  · rename_i hc
    simp only [Option.some.injEq, Prod.mk.injEq] at h
    exact ⟨hc.1, hc.2, h.1, h.2⟩
  cases h
def qEz (l0 : List (List Int)) (a1 : Int) (k : Nat) : List (List Int) := qA1 (l0.take k) a1 ++ l0.drop k
theorem qGk (l0 : List (List Int)) (a1 : Int) (k : Nat) : (qEz l0 a1 k).length = l0.length := by simp [qEz, qBi]; omega
theorem qIu (l0 : List (List Int)) (a1 : Int) (k : Nat) (hk : k < l0.length) : (qEz l0 a1 k).getD k [] = l0.getD k [] := by
  have hl : (qA1 (l0.take k) a1).length = k := by rw [qBi, List.length_take]; omega
  simp only [qEz, List.getD_eq_getElem?_getD]
  rw [List.getElem?_append_right (by omega), hl, Nat.sub_self, List.getElem?_drop, Nat.add_zero]
theorem qIt (l0 : List (List Int)) (a1 : Int) (k : Nat) (hk : k < l0.length) : (qEz l0 a1 k).set k (qA2 (l0.getD k []) (a1 + total (l0.take k))) = qEz l0 a1 (k + 1) := by
  have hl : (qA1 (l0.take k) a1).length = k := by rw [qBi, List.length_take]; omega
  have hd : l0.drop k = l0.getD k [] :: l0.drop (k + 1) := by
    rw [List.drop_eq_getElem_cons hk, List.getD_eq_getElem?_getD, List.getElem?_eq_getElem hk]; rfl
  have ht : l0.take (k + 1) = l0.take k ++ [l0.getD k []] := by
    rw [List.take_succ_eq_append_getElem hk, List.getD_eq_getElem?_getD, List.getElem?_eq_getElem hk]; rfl
  simp only [qEz]
  rw [List.set_append_right _ _ (by omega), hl, Nat.sub_self, hd, List.set_cons_zero, ht, qCs]
  simp [qA1]
theorem qD7 (l0 : List (List Int)) (k : Nat) (hk : k < l0.length) : total (l0.take (k + 1)) = total (l0.take k) + (l0.getD k []).length := by
  have ht : l0.take (k + 1) = l0.take k ++ [l0.getD k []] := by
    rw [List.take_succ_eq_append_getElem hk, List.getD_eq_getElem?_getD, List.getElem?_eq_getElem hk]; rfl
  rw [ht, qB3]; simp [total]
theorem qFo (l0 : List (List Int)) (k : Nat) : total (l0.take k) ≤ total l0 := by
  have h := qB3 (l0.take k) (l0.drop k)
  rw [List.take_append_drop] at h
  have := qBd (l0.drop k)
  omega
theorem laws_markInt64SS.calls (P0_ : Nat → Prop) (u : Value) (l0 : List (List Int)) (a1 : Int) (r1 : Int) (r2 : List (List Int)) (w0 w : World) (hB : Below w0.heap.size w0 w) (ho0 : Kd.S (Kd.slice 2 (Kd.int .i64)) 40 w w0.heap.size P0_ u l0) (h : laws_markInt64SS.f l0 a1 = some (r1, r2)) :
    Calls Try.prog 14 #[u, .int .i64 a1] w fun e w' => e = .returned (.int .i64 r1) ∧ Kd.S (Kd.slice 2 (Kd.int .i64)) 40 w' w0.heap.size P0_ u r2 ∧ Below w0.heap.size w0 w' ∧ Kept w w' P0_ := by
  obtain ⟨ha, hb, rfl, rfl⟩ := laws_markInt64SS.inv h
  obtain ⟨A, c, rfl⟩ := Kd.S_slice ho0
  have hlen : l0.length ≤ 9223372036854775807 := (Kd.S_reads' ho0).2.2.2.1
  have HS := Zz.mk ho0
  have HB := Zz.mk hB
  clear ho0 hB h
  go_enter Try.func14, Try.ntmps14
  go_wp2
  go_loopg [1, 5] l0.length (fun gg v1 v5 wr => ∃ kk : Nat, kk ≤ l0.length ∧ l0.length - kk ≤ gg ∧ v5 = .int .i64 kk ∧ v1 = .int .i64 (a1 + total (l0.take kk)) ∧ Zz (Kd.S (Kd.slice 2 (Kd.int .i64)) 40 wr w0.heap.size P0_ (.slice A l0.length c) (qEz l0 a1 kk)) ∧ Zz (Below w0.heap.size w0 wr) ∧ Zz (Kept w wr P0_))
  case atStart => exact ⟨0, Nat.zero_le _, by omega, rfl, by simp [total], by simpa [qEz, qA1] using HS, HB, ⟨Kept.refl _ _⟩⟩
  case round =>
    obtain ⟨kk, hkk, hg, rfl, rfl, HS1, HB1, HK1⟩ := hrel
    clear HS HB
    by_cases hlt : kk < l0.length
    · have hltz : (kk : Int) < (l0.length : Int) := by omega
      obtain ⟨g, cap, he, _⟩ := Kd.S_form HS1.out (by rw [qGk]; omega)
      injection he with he1 he2 he3
      subst he1; subst he3
      clear he2
      obtain ⟨oki, cc, hcl, hM, hcc, hoki, hH⟩ := Kd.S_lend HS1.out ([] : List Int) (kk : Int) (by omega) (by omega)
      obtain ⟨v, rfl, hR⟩ := hM
      rw [Int.toNat_natCast, qIu l0 a1 kk hlt] at hR
      obtain ⟨A1, c1, rfl⟩ := Kd.R_slice hR
      have hcell := hcc 0 _ rfl
      simp only [Int.toNat_natCast, Nat.add_zero, Nat.mul_one] at hcell
      have hcell2 : wr.cell? ⟨g, kk, none⟩ = some (.slice A1 (l0.getD kk []).length c1) := by simpa [show (Kd.slice 2 (Kd.int .i64)).sz = 1 from rfl] using hcell
      clear hcell hcc
      have hts := qD7 l0 kk hlt
      have htl := qFo l0 (kk + 1)
      have htn := qBd (l0.take kk)
      obtain ⟨K, hk⟩ := qE1 (l0.getD kk []) (a1 + total (l0.take kk)) (by omega) (by omega)
      have hcall := z48.calls K oki _ _ _ _ _ w0 wr HB1.out hR hk
      have HR1 := Zz.mk hR.1
      have HH := Zz.mk hH
      have HO := Zz.mk hoki
      have HT := Zz.mk hts
      clear hH hoki hts htl htn hR hk
      generalize hx : (l0.getD kk []).length = m at hcall hcell2
      have HX := Zz.mk hx
      clear hx
      go_wp2_with (go_at_call 48; refine hcall.mono ?_; rintro e w' ⟨rfl, hR2, hB2, hK2⟩)
      go_roundg (l0.length - (kk + 1))
      case measure => omega
      case rel =>
        have hx := HX.out
        subst hx
        refine ⟨kk + 1, by omega, by omega, by go_num, ?_, ?_, ⟨hB2⟩, ⟨?_⟩⟩
        · rw [HT.out, ← Int.add_assoc]
        · refine ⟨?_⟩
          have h1 := Kd.H_step HH.out (w1 := w') (fun k hk hnk hlt => hK2.2 k hlt hnk)
          have h2 := Kd.H_back h1 (x' := qA2 (l0.getD kk []) (a1 + total (l0.take kk))) (okp := oki) ⟨_, rfl, Kd.R_reok rfl hR2 (fun k e => ?_)⟩ (fun _ hk => hk)
          · rw [Int.toNat_natCast, qIt l0 a1 kk hlt] at h2
            exact h2
          exact HR1.out k e
        exact Kept.then_ HK1.out hK2 (fun k hk => .inl (HO.out k hk).1)
    have hltz : ¬ (kk : Int) < (l0.length : Int) := by omega
    have : kk = l0.length := by omega
    subst this
    go_wp2
    go_ret
    refine ⟨rfl, ?_, HB1.out, HK1.out⟩
    simpa [qEz] using HS1.out
end Go.Proofs.Ytkgajpngeglkmaa.B
/- markSpace: by hand, over the marks of a row of rows. -/
set_option linter.unusedVariables false
namespace Go.Proofs.Ytkgajpngeglkmaa.B
open Go.RowKit Go.Proofs.YtkgajpngeglkmaaW.PrintWords Go.Proofs.YtkgajpngeglkmaaW.PrintLast Go.Proofs.YtkgajpngeglkmaaW.PrintMore
def laws_markSpace.f (a0_0 : Int) (a0_1 : Int) (l0_2 : List (List Int)) (a1 : Int) : Option (Int × List (List Int)) := laws_markInt64SS.f l0_2 a1
theorem laws_markSpace.calls (a0_0 : Int) (a0_1 : Int) (P0_ : Nat → Prop) (u : Value) (l0_2 : List (List Int)) (a1 : Int) (r1 : Int) (r2 : List (List Int)) (w0 w : World) (hB : Below w0.heap.size w0 w) (ho0 : Kd.S (Kd.slice 2 (Kd.int .i64)) 40 w w0.heap.size P0_ u l0_2) (h : laws_markSpace.f a0_0 a0_1 l0_2 a1 = some (r1, r2)) :
    Calls Try.prog 13 #[.agg #[.int .i64 a0_0, .int .i64 a0_1, u], .int .i64 a1] w fun e w' => e = .returned (.int .i64 r1) ∧ Kd.S (Kd.slice 2 (Kd.int .i64)) 40 w' w0.heap.size P0_ u r2 ∧ Below w0.heap.size w0 w' ∧ Kept w w' P0_ := by
  obtain ⟨A, c, rfl⟩ := Kd.S_slice ho0
  have h1 := laws_markInt64SS.calls P0_ _ l0_2 a1 r1 r2 w0 (w.alloc (.cells #[.int .i64 a0_0, .int .i64 a0_1, .slice A l0_2.length c] 28)) (hB.alloc hB.size _) (Kd.S_alloc ho0 _) h
  have hu := Try.underlying28
  clear ho0 hB h
  go_enter Try.func13, Try.ntmps13
  go_wp2_with (go_at_call 14; refine h1.mono ?_; rintro e w' ⟨rfl, hS, hB2, hK⟩)
  go_ret
  exact ⟨rfl, hS, hB2, Kept.then_ (Kept.alloc (Kept.refl _ _) _) hK (fun k hk => .inl hk)⟩
end Go.Proofs.Ytkgajpngeglkmaa.B
