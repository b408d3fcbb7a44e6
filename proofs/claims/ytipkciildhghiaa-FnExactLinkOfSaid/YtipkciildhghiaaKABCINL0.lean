/- Printed proofs of functions of the program and of the reference, by a program of this work over the kit's printer. -/
import Derived.Test.YtipkciildhghiaaKADBEFJ0
import Derived.Test.YtipkciildhghiaaKFPEGOA0
import Derived.Test.YtipkciildhghiaaKGNPJCK0
import Derived.Test.YtipkciildhghiaaKNCCGME0
import Derived.Test.YtipkciildhghiaaKNJLLLB0
import Derived.Test.YtipkciildhghiaaKW0
import Derived.Shelf.SlicesE.DeleteFunc
import Derived.Test.YtipkciildhghiaaProg
set_option maxHeartbeats 8000000
set_option maxRecDepth 100000
namespace Go.Proofs.Ytipkciildhghiaa.B
open Go.RowKit Go.Proofs.YtipkciildhghiaaW.PrintWords Go.Proofs.YtipkciildhghiaaW.PrintLast Go.Proofs.YtipkciildhghiaaW.PrintMore
attribute [local go_sem] max2_int min2_int max_two min_two max_three min_three max_four min_four
set_option linter.unusedVariables false
set_option linter.unusedSimpArgs false
def z118.f (l0 : List (List Int)) : Option (Int) := some (l0.length : Int)
theorem z118.calls (A0 : Option Addr) (c0 : Nat) (l0 : List (List Int)) (r : Int) (w : World) (hr0 : Kd.C (Kd.slice 2 (Kd.int .i64)) w A0 l0.length l0) (hc0 : l0.length ≤ c0) (h : z118.f l0 = some r) :
  Calls Try.prog 118 #[.slice A0 l0.length c0] w fun e w' => e = .returned (.int .i64 r) ∧ Dz w w' := by
 have HR0 := Zz.mk hr0
 have HC0 := Zz.mk hc0
 clear hr0 hc0
 have H : (some (l0.length : Int)) = some r := h
 clear h
 obtain rfl := OI_ H
 go_enter Try.func118, Try.ntmps118
 go_wp2
 go_ret
 exact eD_
def z69.f (k : Nat) (l0_0 : List (List Int)) (a1 : Int) : Option (Int) := (z58.f k l0_0).bind fun t102 => (if t102 = true then ((z118.f l0_0).bind fun t103 => ((z113.f a1 0 (wrap64 (t103 - 1))).bind fun t104 => (if t104 = true then (some 0) else (some 2)))) else (some 1))
theorem z69.calls (k : Nat) (A0_0 : Option Addr) (c0_0 : Nat) (l0_0 : List (List Int)) (a1 : Int) (r : Int) (w : World) (hr0_0 : Kd.C (Kd.slice 2 (Kd.int .i64)) w A0_0 l0_0.length l0_0) (hc0_0 : l0_0.length ≤ c0_0) (h : z69.f k l0_0 a1 = some r) :
  Calls Try.prog 69 #[.agg #[.slice A0_0 l0_0.length c0_0], .int .i64 a1] w fun e w' => e = .returned (.int .i64 r) ∧ Below w.heap.size w w' := by
 have hu29 := Try.underlying29
 have HR0_0 := Zz.mk hr0_0
 have HC0_0 := Zz.mk hc0_0
 clear hr0_0 hc0_0
 have HB := Zz.mk (Below.refl w.heap.size w)
 have H : ((z58.f k l0_0).bind fun t102 => (if t102 = true then ((z118.f l0_0).bind fun t103 => ((z113.f a1 0 (wrap64 (t103 - 1))).bind fun t104 => (if t104 = true then (some 0) else (some 2)))) else (some 1))) = some r := h
 clear h
 replace H := OZ_ H
 obtain ⟨t102, A3, H⟩ := H
 by_cases c4 : t102 = true
 ·subst c4
  replace H := T_ H
  replace H := OZ_ H
  obtain ⟨t103, A5, H⟩ := H
  replace H := OZ_ H
  obtain ⟨t104, A6, H⟩ := H
  by_cases c7 : t104 = true
  ·subst c7
   replace H := T_ H
   obtain rfl := OI_ H
   go_enter Try.func69, Try.ntmps69
   go_wp2_with (first | ((with_reducible refine gate_dst (N := 2) rfl ?_); refine bx_ 2 #[.slice A0_0 l0_0.length c0_0] 29 ?_; intro gb101 hg w8 hbox hb; have BK101 := Zz.mk (hbox); have GW101 := Zz.mk ((gw_ hg (B_ HB.out))); have GE101 := GW101; replace HB := Zz.mk (bT_ (B_ HB.out) hb); clear hb hbox hg; obtain ⟨hcz9_0, hfz9_0⟩ := Z1f_ BK101.out) | ((with_reducible refine gC_ (f := 58) rfl ?_); refine GL_ (some 7) rfl rfl Try.func58 #[.agg #[.slice A0_0 l0_0.length c0_0]] rfl (h := ?_); (with_reducible refine (z58.calls k _ _ l0_0 true _ ?side1 ?side2 A3.out).mono ?_); (case side1 => exact KC_ (Kd.C_below HR0_0.out HB.out)); (case side2 => exact HC0_0.out); rintro e w10 ⟨rfl, hb⟩; refine ⟨_, rfl, ?_⟩; replace BK101 := Zz.mk (kb_ BK101.out hb); replace HB := Zz.mk (bT_ (B1_ HB.out GE101.out) hb); (try clear hb); obtain ⟨hcz11_0, hfz11_0⟩ := Z1f_ BK101.out) | ((with_reducible refine gC_ (f := 118) rfl ?_); refine GL_ (some 13) rfl rfl Try.func118 #[.slice A0_0 l0_0.length c0_0] rfl (h := ?_); (with_reducible refine (z118.calls _ _ l0_0 t103 _ ?side1 ?side2 A5.out).mono ?_); (case side1 => exact KC_ (Kd.C_below HR0_0.out HB.out)); (case side2 => exact HC0_0.out); rintro e w' ⟨rfl, ⟨nd, rfl⟩⟩; refine ⟨_, rfl, ?_⟩) | ((with_reducible refine gC_ (f := 113) rfl ?_); refine GL_ (some 15) rfl rfl Try.func113 #[.int .i64 a1, .int .i64 0, .int .i64 (wrap64 (t103 - 1))] rfl (h := ?_); (with_reducible refine (z113.calls a1 0 (wrap64 (t103 - 1)) true _ A6.out).mono ?_); rintro e w' ⟨rfl, ⟨nd, rfl⟩⟩; refine ⟨_, rfl, ?_⟩))
   go_ret
   exact ⟨F_, B1_ HB.out GE101.out⟩
  replace c7 := Bool.eq_false_iff.mpr c7
  subst c7
  replace H := N_ H
  obtain rfl := OI_ H
  go_enter Try.func69, Try.ntmps69
  go_wp2_with (first | ((with_reducible refine gate_dst (N := 2) rfl ?_); refine bx_ 2 #[.slice A0_0 l0_0.length c0_0] 29 ?_; intro gb101 hg w12 hbox hb; have BK101 := Zz.mk (hbox); have GW101 := Zz.mk ((gw_ hg (B_ HB.out))); have GE101 := GW101; replace HB := Zz.mk (bT_ (B_ HB.out) hb); clear hb hbox hg; obtain ⟨hcz13_0, hfz13_0⟩ := Z1f_ BK101.out) | ((with_reducible refine gC_ (f := 58) rfl ?_); refine GL_ (some 7) rfl rfl Try.func58 #[.agg #[.slice A0_0 l0_0.length c0_0]] rfl (h := ?_); (with_reducible refine (z58.calls k _ _ l0_0 true _ ?side1 ?side2 A3.out).mono ?_); (case side1 => exact KC_ (Kd.C_below HR0_0.out HB.out)); (case side2 => exact HC0_0.out); rintro e w14 ⟨rfl, hb⟩; refine ⟨_, rfl, ?_⟩; replace BK101 := Zz.mk (kb_ BK101.out hb); replace HB := Zz.mk (bT_ (B1_ HB.out GE101.out) hb); (try clear hb); obtain ⟨hcz15_0, hfz15_0⟩ := Z1f_ BK101.out) | ((with_reducible refine gC_ (f := 118) rfl ?_); refine GL_ (some 13) rfl rfl Try.func118 #[.slice A0_0 l0_0.length c0_0] rfl (h := ?_); (with_reducible refine (z118.calls _ _ l0_0 t103 _ ?side1 ?side2 A5.out).mono ?_); (case side1 => exact KC_ (Kd.C_below HR0_0.out HB.out)); (case side2 => exact HC0_0.out); rintro e w' ⟨rfl, ⟨nd, rfl⟩⟩; refine ⟨_, rfl, ?_⟩) | ((with_reducible refine gC_ (f := 113) rfl ?_); refine GL_ (some 15) rfl rfl Try.func113 #[.int .i64 a1, .int .i64 0, .int .i64 (wrap64 (t103 - 1))] rfl (h := ?_); (with_reducible refine (z113.calls a1 0 (wrap64 (t103 - 1)) false _ A6.out).mono ?_); rintro e w' ⟨rfl, ⟨nd, rfl⟩⟩; refine ⟨_, rfl, ?_⟩))
  go_ret
  exact ⟨F_, B1_ HB.out GE101.out⟩
 replace c4 := Bool.eq_false_iff.mpr c4
 subst c4
 replace H := N_ H
 obtain rfl := OI_ H
 go_enter Try.func69, Try.ntmps69
 go_wp2_with (first | ((with_reducible refine gate_dst (N := 2) rfl ?_); refine bx_ 2 #[.slice A0_0 l0_0.length c0_0] 29 ?_; intro gb101 hg w16 hbox hb; have BK101 := Zz.mk (hbox); have GW101 := Zz.mk ((gw_ hg (B_ HB.out))); have GE101 := GW101; replace HB := Zz.mk (bT_ (B_ HB.out) hb); clear hb hbox hg; obtain ⟨hcz17_0, hfz17_0⟩ := Z1f_ BK101.out) | ((with_reducible refine gC_ (f := 58) rfl ?_); refine GL_ (some 7) rfl rfl Try.func58 #[.agg #[.slice A0_0 l0_0.length c0_0]] rfl (h := ?_); (with_reducible refine (z58.calls k _ _ l0_0 false _ ?side1 ?side2 A3.out).mono ?_); (case side1 => exact KC_ (Kd.C_below HR0_0.out HB.out)); (case side2 => exact HC0_0.out); rintro e w18 ⟨rfl, hb⟩; refine ⟨_, rfl, ?_⟩; replace BK101 := Zz.mk (kb_ BK101.out hb); replace HB := Zz.mk (bT_ (B1_ HB.out GE101.out) hb); (try clear hb)))
 go_ret
 exact ⟨F_, B1_ HB.out GE101.out⟩
def z158.f (k : Nat) (a0 : Int) (l1_0 : List Int) : Option (Bool) := (z122.f k l1_0 a0).bind fun t101 => (some (!t101))
theorem z158.calls (k : Nat) (a0 : Int) (gp1 : Nat) (A1_0 : Option Addr) (c1_0 : Nat) (l1_0 : List Int) (r : Bool) (w : World) (hbp1 : w.heap[gp1]? = some (.cells #[.slice A1_0 l1_0.length c1_0] 26 (0, 0))) (hr1_0 : Kd.C (Kd.int .i64) w A1_0 l1_0.length l1_0) (hc1_0 : l1_0.length ≤ c1_0) (h : z158.f k a0 l1_0 = some r) :
  Calls Try.prog 158 #[.int .i64 a0, .pointer (some ⟨gp1, 0, none⟩)] w fun e w' => e = .returned (.bool r) ∧ Dz w w' := by
 have HR1_0 := Zz.mk hr1_0
 have HC1_0 := Zz.mk hc1_0
 clear hr1_0 hc1_0
 have BK51 := Zz.mk hbp1
 clear hbp1
 have H : ((z122.f k l1_0 a0).bind fun t101 => (some (!t101))) = some r := h
 clear h
 replace H := OZ_ H
 obtain ⟨t101, A3, H⟩ := H
 obtain rfl := OI_ H
 obtain ⟨hcz4_0, hfz4_0⟩ := Z1f_ BK51.out
 go_enter Try.func158, Try.ntmps158
 go_wp2_with (first | ((with_reducible refine gC_ (f := 122) rfl ?_); refine GL_ (some 6) rfl rfl Try.func122 #[.slice A1_0 l1_0.length c1_0, .int .i64 a0] rfl (h := ?_); (with_reducible refine (z122.calls k _ _ l1_0 a0 t101 _ ?side1 ?side2 A3.out).mono ?_); (case side1 => exact KC_ HR1_0.out); (case side2 => exact HC1_0.out); rintro e w' ⟨rfl, ⟨nd, rfl⟩⟩; refine ⟨_, rfl, ?_⟩))
 go_ret
 exact eD_
def z232.l0 : Nat → List Int → Int → Int → List Int → Option (Int)
 | 0, _, _, _, _ => none
 | k + 1, x0, x7, x8, x69000 => if x8 < x7 then (if 0 ≤ x8 then (if x8 < (x0.length : Int) then ((z158.f k (rd x0 x8) x69000).bind fun t102 => (if t102 = true then (some x8) else (z232.l0 k x0 x7 (wrap64 (x8 + 1)) x69000))) else (none)) else (none)) else (some (-1))
def z232.f (k : Nat) (l0 : List Int) (l1_0 : List Int) : Option (Int) := z232.l0 k l0 (l0.length : Int) 0 l1_0
theorem z232.calls (k : Nat) (A0 : Option Addr) (c0 : Nat) (l0 : List Int) (gp1_0 : Nat) (A1_0 : Option Addr) (c1_0 : Nat) (l1_0 : List Int) (r : Int) (w : World) (hbp1_0 : w.heap[gp1_0]? = some (.cells #[.slice A1_0 l1_0.length c1_0] 26 (0, 0))) (hr0 : Kd.C (Kd.int .i64) w A0 l0.length l0) (hc0 : l0.length ≤ c0) (hr1_0 : Kd.C (Kd.int .i64) w A1_0 l1_0.length l1_0) (hc1_0 : l1_0.length ≤ c1_0) (h : z232.f k l0 l1_0 = some r) :
  Calls Try.prog 159 #[.slice A0 l0.length c0, .func (.func 158) #[] #[.pointer (some ⟨gp1_0, 0, none⟩)]] w fun e w' => e = .returned (.int .i64 r) ∧ Below w.heap.size w w' := by
 have HR0 := Zz.mk hr0
 have HC0 := Zz.mk hc0
 clear hr0 hc0
 have HR1_0 := Zz.mk hr1_0
 have HC1_0 := Zz.mk hc1_0
 clear hr1_0 hc1_0
 have BK68 := Zz.mk hbp1_0
 clear hbp1_0
 have HB := Zz.mk (Below.refl w.heap.size w)
 have H : (z232.l0 k l0 (l0.length : Int) 0 l1_0) = some r := h
 clear h
 have H' := Zz.mk H
 clear H
 go_enter Try.func159, Try.ntmps159
 go_wp2
 go_loopg [8] k (fun kq v8 w' => ∃ (x8_1 : Int), v8 = .int .i64 x8_1 ∧ Zz (z232.l0 kq l0 (l0.length : Int) x8_1 l1_0 = some r) ∧ Zz (kq ≤ k) ∧ Zz (w'.heap[gp1_0]? = some (.cells #[(.slice A1_0 l1_0.length c1_0)] 26 (0, 0))) ∧ Zz (Below w.heap.size w w'))
 case atStart => exact ⟨(0), E_, H', ⟨Nat.le_refl _⟩, ⟨KB_ BK68.out⟩, ⟨B_ HB.out⟩⟩
 case round =>
  clear H'
  obtain ⟨x8_1, rfl, HA, HK1, BK68, HB⟩ := hrel
  cases gk with
  | zero => exact absurd HA.out (by simp [z232.l0])
  | succ k1 =>
   have H := HA.out
   clear HA
   simp only [z232.l0] at H
   by_cases c3 : x8_1 < (l0.length : Int)
   ·rw [if_pos c3] at H
    have c3b0 : decide (x8_1 < (l0.length : Int)) = true := decide_eq_true c3
    clear c3
    have c4b0 := O3_ H
    replace H := O2_ H
    have c5b0 := O3_ H
    replace H := O2_ H
    replace H := OZ_ H
    obtain ⟨t102, A6, H⟩ := H
    by_cases c7 : t102 = true
    ·subst c7
     replace H := T_ H
     obtain rfl := OI_ H
     have p101 : 0 ≤ (x8_1 : Int) := D_
     have q101 : x8_1 < (l0.length : Int) := D_
     obtain ⟨ad101, e101, hx101_0⟩ := Kd.at_int HR0.out x8_1 p101 q101
     cases e101
     replace hx101_0 := (HB.out.cell (World.block_lt_of_cell? w _ hx101_0)).trans hx101_0
     replace p101 := eq_true p101
     replace q101 := eq_true q101
     go_wp2_with (first | (go_at_call 158; (with_reducible refine (z158.calls k1 (rd l0 x8_1) gp1_0 A1_0 c1_0 l1_0 true _ ?side1 ?side2 ?side3 A6.out).mono ?_); (case side1 => refine BW_ ?_; exact BK68.out); (case side2 => exact KC_ (Kd.C_below HR1_0.out HB.out)); (case side3 => exact HC1_0.out); rintro e w' ⟨rfl, ⟨nd, rfl⟩⟩))
     go_ret
     exact ⟨F_, B_ HB.out⟩
    replace c7 := Bool.eq_false_iff.mpr c7
    subst c7
    replace H := N_ H
    have H' := Zz.mk H
    clear H
    have p101 : 0 ≤ (x8_1 : Int) := D_
    have q101 : x8_1 < (l0.length : Int) := D_
    obtain ⟨ad101, e101, hx101_0⟩ := Kd.at_int HR0.out x8_1 p101 q101
    cases e101
    replace hx101_0 := (HB.out.cell (World.block_lt_of_cell? w _ hx101_0)).trans hx101_0
    replace p101 := eq_true p101
    replace q101 := eq_true q101
    go_wp2_with (first | (go_at_call 158; (with_reducible refine (z158.calls k1 (rd l0 x8_1) gp1_0 A1_0 c1_0 l1_0 false _ ?side1 ?side2 ?side3 A6.out).mono ?_); (case side1 => refine BW_ ?_; exact BK68.out); (case side2 => exact KC_ (Kd.C_below HR1_0.out HB.out)); (case side3 => exact HC1_0.out); rintro e w' ⟨rfl, ⟨nd, rfl⟩⟩))
    go_roundg k1
    case measure => exact Q1_ HK1
    case rel => exact ⟨(wrap64 (x8_1 + 1)), E_, H', ⟨Q1_ HK1⟩, ⟨KB_ BK68.out⟩, ⟨B_ HB.out⟩⟩
   rw [if_neg c3] at H
   have c3b0 : decide (x8_1 < (l0.length : Int)) = false := decide_eq_false c3
   clear c3
   obtain rfl := OI_ H
   go_wp2
   go_ret
   exact ⟨F_, B_ HB.out⟩
def z231.f (k : Nat) (l0 : List Int) (l1_0 : List Int) : Option (Bool) := (z232.f k l0 l1_0).bind fun t101 => (some (decide (t101 ≥ 0)))
theorem z231.calls (k : Nat) (A0 : Option Addr) (c0 : Nat) (l0 : List Int) (gp1_0 : Nat) (A1_0 : Option Addr) (c1_0 : Nat) (l1_0 : List Int) (r : Bool) (w : World) (hbp1_0 : w.heap[gp1_0]? = some (.cells #[.slice A1_0 l1_0.length c1_0] 26 (0, 0))) (hr0 : Kd.C (Kd.int .i64) w A0 l0.length l0) (hc0 : l0.length ≤ c0) (hr1_0 : Kd.C (Kd.int .i64) w A1_0 l1_0.length l1_0) (hc1_0 : l1_0.length ≤ c1_0) (h : z231.f k l0 l1_0 = some r) :
  Calls Try.prog 126 #[.slice A0 l0.length c0, .func (.func 158) #[] #[.pointer (some ⟨gp1_0, 0, none⟩)]] w fun e w' => e = .returned (.bool r) ∧ Below w.heap.size w w' := by
 have HR0 := Zz.mk hr0
 have HC0 := Zz.mk hc0
 clear hr0 hc0
 have HR1_0 := Zz.mk hr1_0
 have HC1_0 := Zz.mk hc1_0
 clear hr1_0 hc1_0
 have BK68 := Zz.mk hbp1_0
 clear hbp1_0
 have HB := Zz.mk (Below.refl w.heap.size w)
 have H : ((z232.f k l0 l1_0).bind fun t101 => (some (decide (t101 ≥ 0)))) = some r := h
 clear h
 replace H := OZ_ H
 obtain ⟨t101, A3, H⟩ := H
 obtain rfl := OI_ H
 go_enter Try.func126, Try.ntmps126
 go_wp2_with (first | ((with_reducible refine gC_ (f := 159) rfl ?_); refine GL_ (some 7) rfl rfl Try.func159 #[.slice A0 l0.length c0, .func (.func 158) #[] #[.pointer (some ⟨gp1_0, 0, none⟩)]] rfl (h := ?_); (with_reducible refine (z232.calls k _ _ l0 gp1_0 A1_0 c1_0 l1_0 t101 _ ?side1 ?side2 ?side3 ?side4 ?side5 A3.out).mono ?_); (case side1 => refine BW_ ?_; exact BK68.out); (case side2 => exact KC_ HR0.out); (case side3 => exact HC0.out); (case side4 => exact KC_ HR1_0.out); (case side5 => exact HC1_0.out); rintro e w4 ⟨rfl, hb⟩; refine ⟨_, rfl, ?_⟩; replace BK68 := Zz.mk (kb_ BK68.out hb); replace HB := Zz.mk (bT_ (B_ HB.out) hb); (try clear hb)))
 go_ret
 exact ⟨F_, B_ HB.out⟩
def z119.f (k : Nat) (l0 : List Int) (l1 : List Int) : Option (Bool) := (z231.f k l0 l1).bind fun t102 => (some (!t102))
theorem z119.calls (k : Nat) (A0 : Option Addr) (c0 : Nat) (l0 : List Int) (A1 : Option Addr) (c1 : Nat) (l1 : List Int) (r : Bool) (w : World) (hr0 : Kd.C (Kd.int .i64) w A0 l0.length l0) (hc0 : l0.length ≤ c0) (hr1 : Kd.C (Kd.int .i64) w A1 l1.length l1) (hc1 : l1.length ≤ c1) (h : z119.f k l0 l1 = some r) :
  Calls Try.prog 119 #[.slice A0 l0.length c0, .slice A1 l1.length c1] w fun e w' => e = .returned (.bool r) ∧ Below w.heap.size w w' := by
 have HR0 := Zz.mk hr0
 have HC0 := Zz.mk hc0
 clear hr0 hc0
 have HR1 := Zz.mk hr1
 have HC1 := Zz.mk hc1
 clear hr1 hc1
 have HB := Zz.mk (Below.refl w.heap.size w)
 have H : ((z231.f k l0 l1).bind fun t102 => (some (!t102))) = some r := h
 clear h
 replace H := OZ_ H
 obtain ⟨t102, A3, H⟩ := H
 obtain rfl := OI_ H
 go_enter Try.func119, Try.ntmps119
 go_wp2_with (first | ((with_reducible refine gate_dst (N := 3) rfl ?_); refine bx_ 3 #[.slice A1 l1.length c1] 26 ?_; intro gb101 hg w4 hbox hb; have BK101 := Zz.mk (hbox); have GW101 := Zz.mk ((gw_ hg (B_ HB.out))); have GE101 := GW101; replace HB := Zz.mk (bT_ (B_ HB.out) hb); clear hb hbox hg) | ((with_reducible refine gC_ (f := 126) rfl ?_); refine GL_ (some 7) rfl rfl Try.func126 #[.slice A0 l0.length c0, .func (.func 158) #[] #[.pointer (some ⟨gb101, 0, none⟩)]] rfl (h := ?_); (with_reducible refine (z231.calls k _ _ l0 gb101 A1 c1 l1 t102 _ ?side1 ?side2 ?side3 ?side4 ?side5 A3.out).mono ?_); (case side1 => refine BW_ ?_; exact BK101.out); (case side2 => exact KC_ (Kd.C_below HR0.out HB.out)); (case side3 => exact HC0.out); (case side4 => exact KC_ (Kd.C_below HR1.out HB.out)); (case side5 => exact HC1.out); rintro e w5 ⟨rfl, hb⟩; refine ⟨_, rfl, ?_⟩; replace BK101 := Zz.mk (kb_ BK101.out hb); replace HB := Zz.mk (bT_ (B1_ HB.out GE101.out) hb); (try clear hb)))
 go_ret
 exact ⟨F_, B1_ HB.out GE101.out⟩
def z70.l0 : Nat → Int → List Int → List (List Int) → Int → Int → List (List Int) → Option (List Int)
 | 0, _, _, _, _, _, _ => none
 | k + 1, x1, x5, x9, x10, x11, x102000 => if x11 < x10 then (if 0 ≤ x11 then (if x11 < (x9.length : Int) then (if 0 ≤ x1 then (if x1 < (x102000.length : Int) then ((z119.f k (rI_ x102000 x1) (rI_ x9 x11)).bind fun t104 => (if t104 = true then (if x5.length < 17592186044416 then (z70.l0 k x1 (x5 ++ [x11]) x9 x10 (wrap64 (x11 + 1)) x102000) else (none)) else (z70.l0 k x1 x5 x9 x10 (wrap64 (x11 + 1)) x102000))) else (none)) else (none)) else (none)) else (none)) else (some x5)
def z70.f (k : Nat) (l0_0 : List (List Int)) (a1 : Int) : Option (List Int) := z70.l0 k a1 ([] : List Int) l0_0 (l0_0.length : Int) 0 l0_0
theorem z70.calls (k : Nat) (A0_0 : Option Addr) (c0_0 : Nat) (l0_0 : List (List Int)) (a1 : Int) (r : List Int) (w : World) (hr0_0 : Kd.C (Kd.slice 2 (Kd.int .i64)) w A0_0 l0_0.length l0_0) (hc0_0 : l0_0.length ≤ c0_0) (h : z70.f k l0_0 a1 = some r) :
  Calls Try.prog 70 #[.agg #[.slice A0_0 l0_0.length c0_0], .int .i64 a1] w fun e w' => ∃ v0_ : Value, e = .returned (v0_) ∧ Kd.R (Kd.int .i64) 2 w' w.heap.size (fun _ => True) v0_ r ∧ Below w.heap.size w w' := by
 have hu29 := Try.underlying29
 have HR0_0 := Zz.mk hr0_0
 have HC0_0 := Zz.mk hc0_0
 clear hr0_0 hc0_0
 have HB := Zz.mk (Below.refl w.heap.size w)
 have H : (z70.l0 k a1 ([] : List Int) l0_0 (l0_0.length : Int) 0 l0_0) = some r := h
 clear h
 have H' := Zz.mk H
 clear H
 go_enter Try.func70, Try.ntmps70
 go_wp2_with (first | ((with_reducible refine gate_dst (N := 2) rfl ?_); refine bx_ 2 #[.slice A0_0 l0_0.length c0_0] 29 ?_; intro gb101 hg w3 hbox hb; have BK101 := Zz.mk (hbox); have GW101 := Zz.mk ((gw_ hg (B_ HB.out))); have GE101 := GW101; replace HB := Zz.mk (bT_ (B_ HB.out) hb); clear hb hbox hg; obtain ⟨hcz4_0, hfz4_0⟩ := Z1f_ BK101.out))
 go_loopg [5, 11] k (fun kq v5 v11 w' => ∃ (x5_1 : List Int) (x11_1 : Int), v11 = .int .i64 x11_1 ∧ Zz (z70.l0 kq a1 x5_1 l0_0 (l0_0.length : Int) x11_1 l0_0 = some r) ∧ Zz (kq ≤ k) ∧ Zz (Kd.R (Kd.int .i64) 2 w' w.heap.size (fun _ => True) v5 x5_1) ∧ Zz (w'.heap[gb101]? = some (.cells #[(.slice A0_0 l0_0.length c0_0)] 29 (0, 0))) ∧ Zz (Below w.heap.size w w'))
 case atStart => exact ⟨(([] : List Int)), (0), E_, H', ⟨Nat.le_refl _⟩, ⟨by first | exact Kd.R_nil _ _ _ _ _ | exact Kd.N_nil _ _ _ _ _ | exact Kd.V_nil _ _ _ _ _ | exact Kd.Q_nil _ _ _ _ _ | exact Kd.S_nil _ _ _ _ _⟩, ⟨KB_ BK101.out⟩, ⟨B1_ HB.out GE101.out⟩⟩
 case round =>
  clear H'
  (try clear hcz4_0);(try clear hfz4_0)
  obtain ⟨x5_1, x11_1, rfl, HA, HK1, HO_5, BK101, HB⟩ := hrel
  cases gk with
  | zero => exact absurd HA.out (by simp [z70.l0])
  | succ k1 =>
   have H := HA.out
   clear HA
   simp only [z70.l0] at H
   by_cases c5 : x11_1 < (l0_0.length : Int)
   ·rw [if_pos c5] at H
    have c5b0 : decide (x11_1 < (l0_0.length : Int)) = true := decide_eq_true c5
    clear c5
    have c6b0 := O3_ H
    replace H := O2_ H
    have c7b0 := O3_ H
    replace H := O2_ H
    have c8b0 := O3_ H
    replace H := O2_ H
    have c9b0 := O3_ H
    replace H := O2_ H
    replace H := OZ_ H
    obtain ⟨t104, A10, H⟩ := H
    by_cases c11 : t104 = true
    ·subst c11
     replace H := T_ H
     have c12 := O1_ H
     replace H := O2_ H
     have LMc12 := Zz.mk c12
     clear c12
     obtain ⟨y105, hy105⟩ : ∃ y_ : List Int, y_ = (x5_1 ++ [x11_1]) := ⟨_, rfl⟩
     replace H : (z70.l0 k1 a1 y105 l0_0 (l0_0.length : Int) (wrap64 (x11_1 + 1)) l0_0) = some r := Y_ hy105 H
     have Ny105 := Zz.mk hy105
     clear hy105
     have H' := Zz.mk H
     clear H
     have p102 : 0 ≤ (x11_1 : Int) := D_
     have q102 : x11_1 < (l0_0.length : Int) := D_
     obtain ⟨ad102, A102_0, c102_0, e102, hx102_0, hl102_0, hi102_0⟩ := at_ListInt HR0_0.out x11_1 p102 q102
     cases e102
     replace hx102_0 := (HB.out.cell (World.block_lt_of_cell? w _ hx102_0)).trans hx102_0
     have HR102_0 := Zz.mk hi102_0
     have HC102_0 := Zz.mk hl102_0
     clear hi102_0 hl102_0
     replace p102 := eq_true p102
     replace q102 := eq_true q102
     obtain ⟨hcz13_0, hfz13_0⟩ := Z1f_ BK101.out
     have p103 : 0 ≤ (a1 : Int) := D_
     have q103 : a1 < (l0_0.length : Int) := D_
     obtain ⟨ad103, A103_0, c103_0, e103, hx103_0, hl103_0, hi103_0⟩ := at_ListInt HR0_0.out a1 p103 q103
     obtain rfl : ad102 = ad103 := (by injection e103)
     replace hx103_0 := (HB.out.cell (World.block_lt_of_cell? w _ hx103_0)).trans hx103_0
     have HR103_0 := Zz.mk hi103_0
     have HC103_0 := Zz.mk hl103_0
     clear hi103_0 hl103_0
     replace p103 := eq_true p103
     replace q103 := eq_true q103
     go_wp2_with (first | ((with_reducible refine gC_ (f := 119) rfl ?_); refine GL_ (some 22) rfl rfl Try.func119 #[.slice A103_0 (rI_ l0_0 a1).length c103_0, .slice A102_0 (rI_ l0_0 x11_1).length c102_0] rfl (h := ?_); (with_reducible refine (z119.calls k1 _ _ (rI_ l0_0 a1) _ _ (rI_ l0_0 x11_1) true _ ?side1 ?side2 ?side3 ?side4 A10.out).mono ?_); (case side1 => exact KC_ (Kd.C_below HR103_0.out HB.out)); (case side2 => exact HC103_0.out); (case side3 => exact KC_ (Kd.C_below HR102_0.out HB.out)); (case side4 => exact HC102_0.out); rintro e w14 ⟨rfl, hb⟩; refine ⟨_, rfl, ?_⟩; replace HO_5 := Zz.mk (Kd.R_below (KR_ HO_5.out) hb); replace BK101 := Zz.mk (kb_ BK101.out hb); replace HB := Zz.mk (bT_ (B1_ HB.out GE101.out) hb); (try clear hb)) | ((with_reducible refine gate_builtin (b := .append) (xs := #[.tmp 23, .tmp 25]) rfl ?_); at_builtin; refine Kd.R_append (Kd.int .i64) (w0 := w) w.heap.size rfl (.tmp 23) (.tmp 25) 26 2 (.int .i64 0) 8 rfl Try.underlying26 info2 rfl (by decide) (by omega) u5 x5_1 x11_1 [.int .i64 x11_1] (fun _ => True) (fun _ => False) rfl rfl ?aP (fun _ hk => hk.elim) ?aF ?aO ?aB ?aS ?aL ?_; (case aP => exact rfl); (case aB => exact (B1_ HB.out GE101.out)); (case aF => exact (fun _ _ => trivial)); (case aO => exact (KR_ HO_5.out)); (case aS => exact (bS_ (B1_ HB.out GE101.out))); (case aL => have := LMc12.out; omega); intro v106 w15 ho hb hg hat; rw [← Ny105.out] at ho; replace BK101 := Zz.mk (blk_grown (g := gb101) (o := .cells #[.slice (some ad102) l0_0.length c0_0] 29 (0, 0)) (KB_ BK101.out) hg (Kd.R_ne HO_5.out BK101.out (by decide))); replace HB := Zz.mk (hb); have HO107 := Zz.mk (ho); clear HO_5; clear ho hb hg hat))
     go_roundg k1
     case measure => exact Q1_ HK1
     case rel => exact ⟨(y105), (wrap64 (x11_1 + 1)), E_, H', ⟨Q1_ HK1⟩, ⟨KR_ HO107.out⟩, ⟨KB_ BK101.out⟩, ⟨B1_ HB.out GE101.out⟩⟩
    replace c11 := Bool.eq_false_iff.mpr c11
    subst c11
    replace H := N_ H
    have H' := Zz.mk H
    clear H
    have p102 : 0 ≤ (x11_1 : Int) := D_
    have q102 : x11_1 < (l0_0.length : Int) := D_
    obtain ⟨ad102, A102_0, c102_0, e102, hx102_0, hl102_0, hi102_0⟩ := at_ListInt HR0_0.out x11_1 p102 q102
    cases e102
    replace hx102_0 := (HB.out.cell (World.block_lt_of_cell? w _ hx102_0)).trans hx102_0
    have HR102_0 := Zz.mk hi102_0
    have HC102_0 := Zz.mk hl102_0
    clear hi102_0 hl102_0
    replace p102 := eq_true p102
    replace q102 := eq_true q102
    obtain ⟨hcz16_0, hfz16_0⟩ := Z1f_ BK101.out
    have p103 : 0 ≤ (a1 : Int) := D_
    have q103 : a1 < (l0_0.length : Int) := D_
    obtain ⟨ad103, A103_0, c103_0, e103, hx103_0, hl103_0, hi103_0⟩ := at_ListInt HR0_0.out a1 p103 q103
    obtain rfl : ad102 = ad103 := (by injection e103)
    replace hx103_0 := (HB.out.cell (World.block_lt_of_cell? w _ hx103_0)).trans hx103_0
    have HR103_0 := Zz.mk hi103_0
    have HC103_0 := Zz.mk hl103_0
    clear hi103_0 hl103_0
    replace p103 := eq_true p103
    replace q103 := eq_true q103
    go_wp2_with (first | ((with_reducible refine gC_ (f := 119) rfl ?_); refine GL_ (some 22) rfl rfl Try.func119 #[.slice A103_0 (rI_ l0_0 a1).length c103_0, .slice A102_0 (rI_ l0_0 x11_1).length c102_0] rfl (h := ?_); (with_reducible refine (z119.calls k1 _ _ (rI_ l0_0 a1) _ _ (rI_ l0_0 x11_1) false _ ?side1 ?side2 ?side3 ?side4 A10.out).mono ?_); (case side1 => exact KC_ (Kd.C_below HR103_0.out HB.out)); (case side2 => exact HC103_0.out); (case side3 => exact KC_ (Kd.C_below HR102_0.out HB.out)); (case side4 => exact HC102_0.out); rintro e w17 ⟨rfl, hb⟩; refine ⟨_, rfl, ?_⟩; replace HO_5 := Zz.mk (Kd.R_below (KR_ HO_5.out) hb); replace BK101 := Zz.mk (kb_ BK101.out hb); replace HB := Zz.mk (bT_ (B1_ HB.out GE101.out) hb); (try clear hb)))
    go_roundg k1
    case measure => exact Q1_ HK1
    case rel => exact ⟨(x5_1), (wrap64 (x11_1 + 1)), E_, H', ⟨Q1_ HK1⟩, ⟨KR_ HO_5.out⟩, ⟨KB_ BK101.out⟩, ⟨B1_ HB.out GE101.out⟩⟩
   rw [if_neg c5] at H
   have c5b0 : decide (x11_1 < (l0_0.length : Int)) = false := decide_eq_false c5
   clear c5
   obtain rfl := OI_ H
   go_wp2
   go_ret
   exact ⟨_, F_, KR_ HO_5.out, B1_ HB.out GE101.out⟩
end Go.Proofs.Ytipkciildhghiaa.B
/- The library's contracts laid at this program (a tool of the kit has written it). -/
namespace Go.Proofs.Ytipkciildhghiaa.B
open Go.Shelf
def delL_ren : Go.Shelf.Ren := ⟨fun | 10 => 120 | 6 => 159 | n => n, fun | 22 => 26 | 23 => 2 | 25 => 64 | 3 => 3 | 4 => 4 | 0 => 0 | n => n, fun | n => n⟩
theorem delL : Go.Proofs.SlLaysH.n10 Try.prog delL_ren := {
  mixed := by kernel_rfl
  f6 := ⟨Try.f159.name, by decide, Try.func159.trans (congrArg some (by kernel_rfl))⟩
  f10 := ⟨Try.f120.name, by decide, Try.func120.trans (congrArg some (by kernel_rfl))⟩
  t0 := Try.underlying0
  a0 := Try.isAgg0
  z0 := Try.sizeOf0
  v0 := Try.zeroValue0
  t3 := Try.underlying3
  a3 := Try.isAgg3
  z3 := Try.sizeOf3
  v3 := Try.zeroValue3
  t4 := Try.underlying4
  a4 := Try.isAgg4
  z4 := Try.sizeOf4
  v4 := Try.zeroValue4
  t22 := Try.underlying26
  a22 := Try.isAgg26
  z22 := Try.sizeOf26
  v22 := Try.zeroValue26
  a23 := Try.isAgg2
  z23 := Try.sizeOf2
  t25 := Try.underlying64
  a25 := Try.isAgg64
  z25 := Try.sizeOf64
  v25 := Try.zeroValue64 }
end Go.Proofs.Ytipkciildhghiaa.B
/- Which numbers are in a list, by the program and by the reference (for this claim, by hand). -/
set_option linter.unusedVariables false
set_option linter.unusedSimpArgs false
namespace Go.Proofs.Ytipkciildhghiaa.B
open Go.RowKit Go.Proofs.YtipkciildhghiaaW.PrintWords
def has (s : List Int) (x : Int) : Bool := s.any (fun z => z == x)
theorem contains_ev (s : List Int) (x : Int) (hl : s.length < 9223372036854775807) : Ev (fun k => z122.f k s x) (has s x) := by
  obtain ⟨t, ht, hd⟩ := ev_index_list s 0 (fun i k => z94.l0 k s x (s.length : Int) (i : Int)) (fun z => z == x) (fun j hj hp r hr => by
    refine Ev.step (fun k => z94.l0.eq_2 ..) ?_
    rw [rd_nat, wrap_succ (by omega)]
    exact ev_pos (by omega) (ev_pos (by omega) (ev_pos (by omega) (ev_neg (by intro e; rw [← e] at hp; simp at hp) hr)))) (fun j hj hp => by
    refine Ev.step (fun k => z94.l0.eq_2 ..) ?_
    rw [rd_nat]
    exact ev_pos (by omega) (ev_pos (by omega) (ev_pos (by omega) (ev_pos (eq_of_beq hp).symm (Ev.now _))))) (by
    refine Ev.step (fun k => z94.l0.eq_2 ..) ?_
    exact ev_neg (by omega) (Ev.now _))
  unfold z122.f z94.f
  exact Ev.bind ht (ev_eq (Ev.now _) hd)
theorem has_ev (s : List Int) (x : Int) (hl : s.length < 9223372036854775807) : Ev (fun k => z67.f k s x) (has s x) := by
  unfold z67.f
  refine ev_find (fun (i : Nat) k => z67.l0 k s x (i : Int)) (fun i => s.getD i 0 == x) s.length 0 (fun j _ hj hp r hr => ?_) (fun j _ hj hp _ => ?_) (fun hall => ?_)
  · refine Ev.step (fun k => z67.l0.eq_2 ..) ?_
    rw [rd_nat, wrap_succ (by omega)]
    exact ev_pos (by omega) (ev_pos (by omega) (ev_neg (by intro e; rw [← e] at hp; simp at hp) hr))
  · have : has s x = true := List.any_eq_true.2 ⟨_, getD_mem 0 (show j < s.length by omega), hp⟩
    rw [this]
    refine Ev.step (fun k => z67.l0.eq_2 ..) ?_
    rw [rd_nat]
    exact ev_pos (by omega) (ev_pos (by omega) (ev_pos (eq_of_beq hp) (Ev.now _)))
  have : has s x = false := by
    rw [has, ← any_range s 0, Bool.eq_false_iff]
    intro h
    obtain ⟨i, hi, hp⟩ := List.any_eq_true.1 h
    rw [hall i (Nat.zero_le _) (by have := List.mem_range.1 hi; omega)] at hp; cases hp
  rw [this, Nat.zero_add]
  refine Ev.step (fun k => z67.l0.eq_2 ..) ?_
  exact ev_neg (by omega) (Ev.now _)
theorem has_iff {s : List Int} {x : Int} : has s x = true ↔ x ∈ s := by
  unfold has
  rw [List.any_eq_true]
  exact ⟨fun ⟨y, hy, e⟩ => (eq_of_beq e) ▸ hy, fun h => ⟨x, h, beq_self_eq_true x⟩⟩
end Go.Proofs.Ytipkciildhghiaa.B
namespace Go.Proofs.Ytipkciildhghiaa.B
open Go.RowKit Go.Proofs.YtipkciildhghiaaW.PrintWords Go.Proofs.YtipkciildhghiaaW.PrintLast Go.Proofs.YtipkciildhghiaaW.PrintMore
attribute [local go_sem] max2_int min2_int max_two min_two max_three min_three max_four min_four
set_option linter.unusedVariables false
set_option linter.unusedSimpArgs false
def z121.f (k : Nat) (a0 : Int) (l1_0 : List Int) : Option (Bool) := (z122.f k l1_0 a0).bind fun t101 => (some t101)
theorem z121.calls (k : Nat) (a0 : Int) (gp1 : Nat) (A1_0 : Option Addr) (c1_0 : Nat) (l1_0 : List Int) (r : Bool) (w : World) (hbp1 : w.heap[gp1]? = some (.cells #[.slice A1_0 l1_0.length c1_0] 26 (0, 0))) (hr1_0 : Kd.C (Kd.int .i64) w A1_0 l1_0.length l1_0) (hc1_0 : l1_0.length ≤ c1_0) (h : z121.f k a0 l1_0 = some r) :
  Calls Try.prog 121 #[.int .i64 a0, .pointer (some ⟨gp1, 0, none⟩)] w fun e w' => e = .returned (.bool r) ∧ Dz w w' := by
 have HR1_0 := Zz.mk hr1_0
 have HC1_0 := Zz.mk hc1_0
 clear hr1_0 hc1_0
 have BK51 := Zz.mk hbp1
 clear hbp1
 have H : ((z122.f k l1_0 a0).bind fun t101 => (some t101)) = some r := h
 clear h
 replace H := OZ_ H
 obtain ⟨t101, A3, H⟩ := H
 obtain rfl := OI_ H
 obtain ⟨hcz4_0, hfz4_0⟩ := Z1f_ BK51.out
 go_enter Try.func121, Try.ntmps121
 go_wp2_with (first | ((with_reducible refine gC_ (f := 122) rfl ?_); refine GL_ (some 6) rfl rfl Try.func122 #[.slice A1_0 l1_0.length c1_0, .int .i64 a0] rfl (h := ?_); (with_reducible refine (z122.calls k _ _ l1_0 a0 t101 _ ?side1 ?side2 A3.out).mono ?_); (case side1 => exact KC_ HR1_0.out); (case side2 => exact HC1_0.out); rintro e w' ⟨rfl, ⟨nd, rfl⟩⟩; refine ⟨_, rfl, ?_⟩))
 go_ret
 exact eD_
end Go.Proofs.Ytipkciildhghiaa.B
/- impl.without: what is not in another list (for this claim, by hand, over the library's contract for slices.DeleteFunc). -/
set_option linter.unusedVariables false
set_option linter.unusedSimpArgs false
namespace Go.Proofs.Ytipkciildhghiaa.B
open Go.RowKit Go.Shelf Go.Proofs.YtipkciildhghiaaW.PrintWords Go.Proofs.YtipkciildhghiaaW.PrintLast Go.Proofs.YtipkciildhghiaaW.PrintMore
open Go.Sort (Holds grow putRow mapBlock putCells onCells)
theorem without_gives (gb : Nat) (A1 : Option Addr) (c1 : Nat) (l1 : List Int) (hl : l1.length ≤ 1048576) (hc1 : l1.length ≤ c1) (W : World) (hg : W.heap[gb]? = some (.cells #[.slice A1 l1.length c1] 26 (0, 0))) (hr : Kd.C (Kd.int .i64) W A1 l1.length l1) (x : Int) :
    FnGives Try.prog 121 #[.pointer (some ⟨gb, 0, none⟩)] #[.int .i64 x] (.bool (has l1 x)) W := by
  obtain ⟨K, hK⟩ := (contains_ev l1 x (by omega)).rounds
  have hf : z121.f K x l1 = some (has l1 x) := by
    unfold z121.f
    rw [hK]; rfl
  exact (z121.calls K x gb A1 c1 l1 _ W hg hr hc1 hf).mono (fun _ _ h => ⟨h.1, h.2.out⟩)
def impl_without.f (l0 l1 : List Int) : Option (List Int) := if (decide (1 ≤ l0.length) && decide (l0.length ≤ 1048576)) && decide (l1.length ≤ 1048576) then some (l0.filter fun x => !has l1 x) else none
theorem impl_without.calls (A0 : Option Addr) (c0 : Nat) (l0 : List Int) (A1 : Option Addr) (c1 : Nat) (l1 : List Int) (r : List Int) (w : World) (hr0 : Kd.C (Kd.int .i64) w A0 l0.length l0) (hc0 : l0.length ≤ c0) (hr1 : Kd.C (Kd.int .i64) w A1 l1.length l1) (hc1 : l1.length ≤ c1) (h : impl_without.f l0 l1 = some r) :
    Calls Try.prog 71 #[.slice A0 l0.length c0, .slice A1 l1.length c1] w fun e w' => ∃ v0_ : Value, e = .returned (v0_) ∧ Kd.R (Kd.int .i64) 2 w' w.heap.size (fun _ => True) v0_ r ∧ Below w.heap.size w w' := by
  unfold impl_without.f at h
  obtain ⟨hcond, rfl⟩ : ((decide (1 ≤ l0.length) && decide (l0.length ≤ 1048576)) && decide (l1.length ≤ 1048576)) = true ∧ (l0.filter fun x => !has l1 x) = r := by
    split at h
    · rename_i hc
      injection h with h
      exact ⟨hc, h⟩
    cases h
  simp only [Bool.and_eq_true, decide_eq_true_eq] at hcond
  obtain ⟨⟨h1, hs0⟩, hs1⟩ := hcond
  have eg : ∀ args w, (callFunc 121 args).run Try.prog w = .ok (.enter 121 args) w := enters_of Try.func121 (by kernel_rfl) rfl
  have HEG := Zz.mk eg
  have HR0 := Zz.mk hr0
  have HC0 := Zz.mk hc0
  have HR1 := Zz.mk hr1
  have HC1 := Zz.mk hc1
  have HS := Zz.mk (And.intro h1 (And.intro hs0 hs1))
  have HCL := Zz.mk (show slices_Clone_int64_int64.f l0 = some l0 by unfold slices_Clone_int64_int64.f; rw [if_pos (by omega)])
  clear eg hr0 hc0 hr1 hc1 h1 hs0 hs1 h
  have HB := Zz.mk (Below.refl w.heap.size w)
  go_enter Try.func71, Try.ntmps71
  go_wp2_with (first
    | ((with_reducible refine gate_dst (N := 3) rfl ?_); refine bx_ 3 #[.slice A1 l1.length c1] 26 ?_; intro gb hgb w3 hbox hb; have HB3 := Zz.mk (bT_ (B_ HB.out) hb); have BK3 := Zz.mk hbox; have GB3 := Zz.mk ((by rw [hgb]; exact (bS_ (B_ HB.out)) : w.heap.size ≤ gb)); clear hbox hb hgb)
    | (go_at_call 86; refine (slices_Clone_int64_int64.calls A0 c0 l0 l0 _ ?s1 HC0.out HCL.out).mono ?_; (case s1 => exact Kd.C_below HR0.out (B_ HB3.out)); rintro e w4 ⟨v4, rfl, hR4, hb4⟩; have HR4 := Zz.mk hR4; have HB4 := Zz.mk hb4; clear hR4 hb4))
  obtain ⟨g4, c4, rfl, hg4, hgl4, cs4, hh4⟩ := Kd.R_form HR4.out HS.out.1
  have hcc4 := (Kd.R_reads' HR4.out).2.1
  have hgb3 : gb < w3.heap.size := (Array.getElem?_eq_some_iff.1 BK3.out).1
  have hne : gb ≠ g4 := by omega
  have hbk4 : w4.heap[gb]? = some (.cells #[.slice A1 l1.length c1] 26 (0, 0)) := (HB4.out.block gb hgb3).trans BK3.out
  have hb04 : Below w.heap.size w w4 := bT_ HB3.out HB4.out
  have hgbl : gb < w4.heap.size := Nat.lt_of_lt_of_le hgb3 HB4.out.size
  have hwg4 : w.heap.size ≤ g4 := Nat.le_trans HB3.out.size hg4
  have hp : PredAt Try.prog 121 #[.pointer (some ⟨gb, 0, none⟩)] (Value.int .i64) (has l1) w4 := fun W x hb =>
    without_gives gb A1 c1 l1 HS.out.2.2 HC1.out W ((hb.block gb hgbl).trans hbk4) (Kd.C_below HR1.out (bT_ hb04 hb)) x
  have hpo : PredOver Try.prog 121 #[.pointer (some ⟨gb, 0, none⟩)] (Value.int .i64) (has l1) g4 0 l0.toArray.size w4 := fun n os dk x _ =>
    without_gives gb A1 c1 l1 HS.out.2.2 HC1.out _ ((sw_heap (Value.int .i64) w4 g4 0 n dk os gb hgbl hne).trans hbk4) (Kd.C_below HR1.out (sw_below (Value.int .i64) w w4 g4 0 n dk os hb04 hwg4)) x
  have hH : Holds (Value.int .i64) w4 g4 0 l0.toArray := by
    intro j hj
    have hj' : j < l0.length := by simpa using hj
    obtain ⟨h2, h3⟩ := Kd.R_celln (0 : Int) HR4.out (j : Int) (by omega) (by omega)
    rw [Int.toNat_natCast] at h2 h3
    rw [Nat.zero_add]
    refine ⟨?_, h3⟩
    rw [h2, rdOf_nat, getElem!_pos _ j hj, List.getD_eq_getElem?_getD, List.getElem?_eq_getElem hj']
    simp
  have hcon := AnyE.slices_DeleteFunc delL (Value.int .i64) (fun _ => rfl) (has l1) 121 #[.pointer (some ⟨gb, 0, none⟩)] HEG.out 0 Try.zeroValue2 g4 0 c4 l0.toArray w4 hp hpo hH (by have := HS.out.2.1; simp; omega) (by simpa using hcc4)
  have HCON := Zz.mk (show Calls Try.prog 120 #[.slice (some ⟨g4, 0, none⟩) l0.length c4, .func (.func 121) #[] #[.pointer (some ⟨gb, 0, none⟩)]] w4 fun e w' => e = .returned (.slice (some ⟨g4, 0, none⟩) (l0.filter fun x => !has l1 x).length c4) ∧ ∃ q, w' = putRow (Value.int .i64) (Go.Sort.ahead w4 q) g4 0 ((l0.filter fun x => !has l1 x) ++ List.replicate (l0.length - (l0.filter fun x => !has l1 x).length) 0).toArray by
    change Calls Try.prog 120 _ _ _ at hcon
    simpa using hcon)
  clear hcon hp hpo hH
  go_wp2_with (go_at_call 120; refine HCON.out.mono ?_; rintro e w5 ⟨rfl, q5, rfl⟩)
  go_ret
  have hfl : (l0.filter fun x => !has l1 x).length ≤ l0.length := List.length_filter_le _ _
  have hgrow := sw_at (Value.int .i64) w4 g4 0 q5 ((l0.filter fun x => !has l1 x) ++ List.replicate (l0.length - (l0.filter fun x => !has l1 x).length) 0).toArray #[] hh4
  have hbel := sw_below (Value.int .i64) w w4 g4 0 q5 ((l0.filter fun x => !has l1 x) ++ List.replicate (l0.length - (l0.filter fun x => !has l1 x).length) 0).toArray #[] hb04 hwg4
  unfold sortWorld at hgrow hbel
  rw [Go.Sort.grow_empty] at hgrow hbel
  obtain ⟨_, inner, ⟨_, hcase⟩, _⟩ := HR4.out
  refine ⟨_, rfl, ⟨fun _ _ => trivial, (l0.filter fun x => !has l1 x).map (Value.int .i64), ⟨?_, ?_⟩, ?_⟩, hbel⟩
  · simp [show (Kd.int .i64).sz = 1 from rfl]
  · rcases hcase with ⟨hx, _⟩ | ⟨g9, cap9, cur9, he9, hb9, hh9, hn9, hm9, hs9, ht9⟩
    · cases hx
    injection he9 with ha9 _ hc9
    injection ha9 with ha9
    injection ha9 with ha9
    subst ha9; subst hc9
    rw [hh4] at hh9
    injection hh9 with hh9
    injection hh9 with hh9
    subst hh9
    rw [show (Kd.int .i64).sz = 1 from rfl, Nat.mul_one] at hs9
    refine .inr ⟨_, _, _, rfl, hwg4, hgrow, by omega, hm9, by rw [show (Kd.int .i64).sz = 1 from rfl, Nat.mul_one]; simp [putCells, hs9], ?_⟩
    rw [show (Kd.int .i64).sz = 1 from rfl, Nat.mul_one]
    refine List.ext_getElem? (fun j => ?_)
    by_cases hj : j < (l0.filter fun x => !has l1 x).length
    · rw [List.getElem?_take, if_pos hj, Array.getElem?_toList, List.getElem?_map, List.getElem?_eq_getElem hj]
      have hjc : j < cs4.size := by omega
      simp only [putCells, Array.getElem?_mapIdx]
      rw [Array.getElem?_eq_getElem hjc]
      simp only [Option.map_some, Nat.zero_le, true_and, Nat.zero_add, Nat.sub_zero]
      rw [if_pos (by simp; omega), getElem!_pos _ j (by simp; omega)]
      simp [hj]
    rw [List.getElem?_eq_none (by simp; omega), List.getElem?_eq_none (by simp; omega)]
  refine ⟨by simp [show (Kd.int .i64).sz = 1 from rfl], fun j p hj => ?_⟩
  show _ = [Value.int .i64 p]
  rw [show (Kd.int .i64).sz = 1 from rfl, Nat.mul_one]
  have h1 : ((l0.filter fun x => !has l1 x).map (Value.int .i64))[j]? = some (Value.int .i64 p) := by rw [List.getElem?_map, hj]; rfl
  obtain ⟨h2, h3⟩ := List.getElem?_eq_some_iff.1 h1
  rw [List.drop_eq_getElem_cons h2, h3]; rfl
end Go.Proofs.Ytipkciildhghiaa.B
namespace Go.Proofs.Ytipkciildhghiaa.B
open Go.RowKit Go.Proofs.YtipkciildhghiaaW.PrintWords Go.Proofs.YtipkciildhghiaaW.PrintLast Go.Proofs.YtipkciildhghiaaW.PrintMore
attribute [local go_sem] max2_int min2_int max_two min_two max_three min_three max_four min_four
set_option linter.unusedVariables false
set_option linter.unusedSimpArgs false
def z65.f (k : Nat) (l0_0 : List (List Int)) (a1 : Int) : Option (Int) := (z56.f k l0_0).bind fun t101 => (if t101 = true then ((z79.f a1 0 (wrap64 ((l0_0.length : Int) - 1))).bind fun t102 => (if t102 = true then (some 0) else (some 2))) else (some 1))
theorem z65.calls (k : Nat) (gp0 : Nat) (A0_0 : Option Addr) (c0_0 : Nat) (l0_0 : List (List Int)) (a1 : Int) (r : Int) (w : World) (hbp0 : w.heap[gp0]? = some (.cells #[.slice A0_0 l0_0.length c0_0] 29 (0, 0))) (hr0_0 : Kd.C (Kd.slice 2 (Kd.int .i64)) w A0_0 l0_0.length l0_0) (hc0_0 : l0_0.length ≤ c0_0) (h : z65.f k l0_0 a1 = some r) :
  Calls Try.prog 65 #[.pointer (some ⟨gp0, 0, none⟩), .int .i64 a1] w fun e w' => e = .returned (.int .i64 r) ∧ Below w.heap.size w w' := by
 have HR0_0 := Zz.mk hr0_0
 have HC0_0 := Zz.mk hc0_0
 clear hr0_0 hc0_0
 have BK50 := Zz.mk hbp0
 clear hbp0
 have HB := Zz.mk (Below.refl w.heap.size w)
 have H : ((z56.f k l0_0).bind fun t101 => (if t101 = true then ((z79.f a1 0 (wrap64 ((l0_0.length : Int) - 1))).bind fun t102 => (if t102 = true then (some 0) else (some 2))) else (some 1))) = some r := h
 clear h
 replace H := OZ_ H
 obtain ⟨t101, A3, H⟩ := H
 by_cases c4 : t101 = true
 ·subst c4
  replace H := T_ H
  replace H := OZ_ H
  obtain ⟨t102, A5, H⟩ := H
  by_cases c6 : t102 = true
  ·subst c6
   replace H := T_ H
   obtain rfl := OI_ H
   go_enter Try.func65, Try.ntmps65
   go_wp2_with (first | ((with_reducible refine gC_ (f := 56) rfl ?_); refine GL_ (some 6) rfl rfl Try.func56 #[.pointer (some ⟨gp0, 0, none⟩)] rfl (h := ?_); (with_reducible refine (z56.calls k gp0 A0_0 c0_0 l0_0 true _ ?side1 ?side2 ?side3 A3.out).mono ?_); (case side1 => refine BW_ ?_; exact BK50.out); (case side2 => exact KC_ HR0_0.out); (case side3 => exact HC0_0.out); rintro e w7 ⟨rfl, hb⟩; refine ⟨_, rfl, ?_⟩; replace BK50 := Zz.mk (kb_ BK50.out hb); replace HB := Zz.mk (bT_ (B_ HB.out) hb); (try clear hb); obtain ⟨hcz8_0, hfz8_0⟩ := Z1f_ BK50.out) | ((with_reducible refine gC_ (f := 79) rfl ?_); refine GL_ (some 15) rfl rfl Try.func79 #[.int .i64 a1, .int .i64 0, .int .i64 (wrap64 ((l0_0.length : Int) - 1))] rfl (h := ?_); (with_reducible refine (z79.calls a1 0 (wrap64 ((l0_0.length : Int) - 1)) true _ A5.out).mono ?_); rintro e w' ⟨rfl, ⟨nd, rfl⟩⟩; refine ⟨_, rfl, ?_⟩))
   go_ret
   exact ⟨F_, B_ HB.out⟩
  replace c6 := Bool.eq_false_iff.mpr c6
  subst c6
  replace H := N_ H
  obtain rfl := OI_ H
  go_enter Try.func65, Try.ntmps65
  go_wp2_with (first | ((with_reducible refine gC_ (f := 56) rfl ?_); refine GL_ (some 6) rfl rfl Try.func56 #[.pointer (some ⟨gp0, 0, none⟩)] rfl (h := ?_); (with_reducible refine (z56.calls k gp0 A0_0 c0_0 l0_0 true _ ?side1 ?side2 ?side3 A3.out).mono ?_); (case side1 => refine BW_ ?_; exact BK50.out); (case side2 => exact KC_ HR0_0.out); (case side3 => exact HC0_0.out); rintro e w9 ⟨rfl, hb⟩; refine ⟨_, rfl, ?_⟩; replace BK50 := Zz.mk (kb_ BK50.out hb); replace HB := Zz.mk (bT_ (B_ HB.out) hb); (try clear hb); obtain ⟨hcz10_0, hfz10_0⟩ := Z1f_ BK50.out) | ((with_reducible refine gC_ (f := 79) rfl ?_); refine GL_ (some 15) rfl rfl Try.func79 #[.int .i64 a1, .int .i64 0, .int .i64 (wrap64 ((l0_0.length : Int) - 1))] rfl (h := ?_); (with_reducible refine (z79.calls a1 0 (wrap64 ((l0_0.length : Int) - 1)) false _ A5.out).mono ?_); rintro e w' ⟨rfl, ⟨nd, rfl⟩⟩; refine ⟨_, rfl, ?_⟩))
  go_ret
  exact ⟨F_, B_ HB.out⟩
 replace c4 := Bool.eq_false_iff.mpr c4
 subst c4
 replace H := N_ H
 obtain rfl := OI_ H
 go_enter Try.func65, Try.ntmps65
 go_wp2_with (first | ((with_reducible refine gC_ (f := 56) rfl ?_); refine GL_ (some 6) rfl rfl Try.func56 #[.pointer (some ⟨gp0, 0, none⟩)] rfl (h := ?_); (with_reducible refine (z56.calls k gp0 A0_0 c0_0 l0_0 false _ ?side1 ?side2 ?side3 A3.out).mono ?_); (case side1 => refine BW_ ?_; exact BK50.out); (case side2 => exact KC_ HR0_0.out); (case side3 => exact HC0_0.out); rintro e w11 ⟨rfl, hb⟩; refine ⟨_, rfl, ?_⟩; replace BK50 := Zz.mk (kb_ BK50.out hb); replace HB := Zz.mk (bT_ (B_ HB.out) hb); (try clear hb)))
 go_ret
 exact ⟨F_, B_ HB.out⟩
def z117.l0 : Nat → List Int → List Int → Int → Option (Bool)
 | 0, _, _, _ => none
 | k + 1, x0, x1, x5 => if x5 < (x0.length : Int) then (if 0 ≤ x5 then ((z67.f k x1 (rd x0 x5)).bind fun t102 => (if t102 = true then (z117.l0 k x0 x1 (wrap64 (x5 + 1))) else (some false))) else (none)) else (some true)
def z117.f (k : Nat) (l0 : List Int) (l1 : List Int) : Option (Bool) := z117.l0 k l0 l1 0
theorem z117.calls (k : Nat) (A0 : Option Addr) (c0 : Nat) (l0 : List Int) (A1 : Option Addr) (c1 : Nat) (l1 : List Int) (r : Bool) (w : World) (hr0 : Kd.C (Kd.int .i64) w A0 l0.length l0) (hc0 : l0.length ≤ c0) (hr1 : Kd.C (Kd.int .i64) w A1 l1.length l1) (hc1 : l1.length ≤ c1) (h : z117.f k l0 l1 = some r) :
  Calls Try.prog 117 #[.slice A0 l0.length c0, .slice A1 l1.length c1] w fun e w' => e = .returned (.bool r) ∧ Dz w w' := by
 have HR0 := Zz.mk hr0
 have HC0 := Zz.mk hc0
 clear hr0 hc0
 have HR1 := Zz.mk hr1
 have HC1 := Zz.mk hc1
 clear hr1 hc1
 have H : (z117.l0 k l0 l1 0) = some r := h
 clear h
 have H' := Zz.mk H
 clear H
 go_enter Try.func117, Try.ntmps117
 go_wp2
 go_loopg [5] k (fun kq v5 w' => ∃ (x5_1 : Int), v5 = .int .i64 x5_1 ∧ Zz (z117.l0 kq l0 l1 x5_1 = some r) ∧ Zz (kq ≤ k) ∧ Dz w w')
 case atStart => exact ⟨(0), E_, H', ⟨Nat.le_refl _⟩, by repeat (first | exact Dz.refl _ | apply Dz.step)⟩
 case round =>
  clear H'
  (try clear c1)
  obtain ⟨x5_1, rfl, HA, HK1, ⟨m1, rfl⟩⟩ := hrel
  cases gk with
  | zero => exact absurd HA.out (by simp [z117.l0])
  | succ k1 =>
   have H := HA.out
   clear HA
   simp only [z117.l0] at H
   by_cases c3 : x5_1 < (l0.length : Int)
   ·rw [if_pos c3] at H
    have c3b0 : decide (x5_1 < (l0.length : Int)) = true := decide_eq_true c3
    clear c3
    have c4b0 := O3_ H
    replace H := O2_ H
    replace H := OZ_ H
    obtain ⟨t102, A5, H⟩ := H
    by_cases c6 : t102 = true
    ·subst c6
     replace H := T_ H
     have H' := Zz.mk H
     clear H
     have p101 : 0 ≤ (x5_1 : Int) := D_
     have q101 : x5_1 < (l0.length : Int) := D_
     obtain ⟨ad101, e101, hx101_0⟩ := Kd.at_int HR0.out x5_1 p101 q101
     cases e101
     replace p101 := eq_true p101
     replace q101 := eq_true q101
     go_wp2_with (first | ((with_reducible refine gC_ (f := 67) rfl ?_); refine GL_ (some 17) rfl rfl Try.func67 #[.slice A1 l1.length c1, .int .i64 (rd l0 x5_1)] rfl (h := ?_); (with_reducible refine (z67.calls k1 _ _ l1 (rd l0 x5_1) true _ ?side1 ?side2 A5.out).mono ?_); (case side1 => exact KC_ HR1.out); (case side2 => exact HC1.out); rintro e w' ⟨rfl, ⟨nd, rfl⟩⟩; refine ⟨_, rfl, ?_⟩))
     go_roundg k1
     case measure => exact Q1_ HK1
     case rel => exact ⟨(wrap64 (x5_1 + 1)), E_, H', ⟨Q1_ HK1⟩, by repeat (first | exact Dz.refl _ | apply Dz.step)⟩
    replace c6 := Bool.eq_false_iff.mpr c6
    subst c6
    replace H := N_ H
    obtain rfl := OI_ H
    have p101 : 0 ≤ (x5_1 : Int) := D_
    have q101 : x5_1 < (l0.length : Int) := D_
    obtain ⟨ad101, e101, hx101_0⟩ := Kd.at_int HR0.out x5_1 p101 q101
    cases e101
    replace p101 := eq_true p101
    replace q101 := eq_true q101
    go_wp2_with (first | ((with_reducible refine gC_ (f := 67) rfl ?_); refine GL_ (some 17) rfl rfl Try.func67 #[.slice A1 l1.length c1, .int .i64 (rd l0 x5_1)] rfl (h := ?_); (with_reducible refine (z67.calls k1 _ _ l1 (rd l0 x5_1) false _ ?side1 ?side2 A5.out).mono ?_); (case side1 => exact KC_ HR1.out); (case side2 => exact HC1.out); rintro e w' ⟨rfl, ⟨nd, rfl⟩⟩; refine ⟨_, rfl, ?_⟩))
    go_ret
    exact eD_
   rw [if_neg c3] at H
   have c3b0 : decide (x5_1 < (l0.length : Int)) = false := decide_eq_false c3
   clear c3
   obtain rfl := OI_ H
   go_wp2
   go_ret
   exact eD_
def z66.l0 : Nat → List Int → List Int → Int → List (List Int) → Option (List Int)
 | 0, _, _, _, _ => none
 | k + 1, x1, x5, x6, x51000 => if x6 < (x51000.length : Int) then (if 0 ≤ x6 then ((z117.f k x1 (rI_ x51000 x6)).bind fun t105 => (if t105 = true then (if x5.length < 17592186044416 then (z66.l0 k x1 (x5 ++ [x6]) (wrap64 (x6 + 1)) x51000) else (none)) else (z66.l0 k x1 x5 (wrap64 (x6 + 1)) x51000))) else (none)) else (some x5)
def z66.f (k : Nat) (l0_0 : List (List Int)) (l1 : List Int) : Option (List Int) := z66.l0 k l1 (([] : List Int)) 0 l0_0
theorem z66.calls (k : Nat) (gp0 : Nat) (A0_0 : Option Addr) (c0_0 : Nat) (l0_0 : List (List Int)) (A1 : Option Addr) (c1 : Nat) (l1 : List Int) (r : List Int) (w : World) (hbp0 : w.heap[gp0]? = some (.cells #[.slice A0_0 l0_0.length c0_0] 29 (0, 0))) (hr0_0 : Kd.C (Kd.slice 2 (Kd.int .i64)) w A0_0 l0_0.length l0_0) (hc0_0 : l0_0.length ≤ c0_0) (hr1 : Kd.C (Kd.int .i64) w A1 l1.length l1) (hc1 : l1.length ≤ c1) (h : z66.f k l0_0 l1 = some r) :
  Calls Try.prog 66 #[.pointer (some ⟨gp0, 0, none⟩), .slice A1 l1.length c1] w fun e w' => ∃ v0_ : Value, e = .returned (v0_) ∧ Kd.R (Kd.int .i64) 2 w' w.heap.size (fun _ => True) v0_ r ∧ Below w.heap.size w w' := by
 have HR0_0 := Zz.mk hr0_0
 have HC0_0 := Zz.mk hc0_0
 clear hr0_0 hc0_0
 have HR1 := Zz.mk hr1
 have HC1 := Zz.mk hc1
 clear hr1 hc1
 have BK50 := Zz.mk hbp0
 clear hbp0
 have HB := Zz.mk (Below.refl w.heap.size w)
 have H : (z66.l0 k l1 (([] : List Int)) 0 l0_0) = some r := h
 clear h
 obtain ⟨y101, hy101⟩ : ∃ y_ : List Int, y_ = (([] : List Int)) := ⟨_, rfl⟩
 replace H : (z66.l0 k l1 y101 0 l0_0) = some r := Y_ hy101 H
 have Ny101 := Zz.mk hy101
 clear hy101
 have H' := Zz.mk H
 clear H
 go_enter Try.func66, Try.ntmps66
 go_wp2_with (first | ((with_reducible refine gate_dst (N := 7) rfl ?_); refine Kd.R_lit (Kd.int .i64) _ 2 ?hg (N := 7) ?hd (xs := ([] : List Int)) (inner := []) (ok := fun _ => True) (okp := fun _ => True) ?hr ?hp (fun _ hk => hk) trivial (Below.refl _ _) (Nat.le_refl _) (by simp) ?_; (case hd => rfl); (case hg => rfl); (case hr => first | (go_simp; done) | (go_simp; rfl)); (case hp => exact (Reps.none _ _)); intro v102 w3 ho4 hb hg_ hnew_; clear hg_ hnew_; (first | rw [← Ny101.out] at ho4 | (simp only [Int.reduceToNat] at ho4; rw [← Ny101.out] at ho4)); have HO103 := Zz.mk (Kd.R_lower ho4 (bS_ (B_ HB.out))); replace BK50 := Zz.mk (kb_ BK50.out hb); replace HB := Zz.mk (bT_ (B_ HB.out) hb); clear hb ho4))
 go_loopg [5, 6] k (fun kq v5 v6 w' => ∃ (x5_1 : List Int) (x6_1 : Int), v6 = .int .i64 x6_1 ∧ Zz (z66.l0 kq l1 x5_1 x6_1 l0_0 = some r) ∧ Zz (kq ≤ k) ∧ Zz (Kd.R (Kd.int .i64) 2 w' w.heap.size (fun _ => True) v5 x5_1) ∧ Zz (w'.heap[gp0]? = some (.cells #[(.slice A0_0 l0_0.length c0_0)] 29 (0, 0))) ∧ Zz (Below w.heap.size w w'))
 case atStart => exact ⟨(y101), (0), E_, H', ⟨Nat.le_refl _⟩, ⟨KR_ HO103.out⟩, ⟨KB_ BK50.out⟩, ⟨B_ HB.out⟩⟩
 case round =>
  clear H'
  (try clear c1)
  obtain ⟨x5_1, x6_1, rfl, HA, HK1, HO_5, BK50, HB⟩ := hrel
  cases gk with
  | zero => exact absurd HA.out (by simp [z66.l0])
  | succ k1 =>
   have H := HA.out
   clear HA
   simp only [z66.l0] at H
   by_cases c5 : x6_1 < (l0_0.length : Int)
   ·rw [if_pos c5] at H
    have c5b0 : decide (x6_1 < (l0_0.length : Int)) = true := decide_eq_true c5
    clear c5
    have c6b0 := O3_ H
    replace H := O2_ H
    replace H := OZ_ H
    obtain ⟨t105, A7, H⟩ := H
    by_cases c8 : t105 = true
    ·subst c8
     replace H := T_ H
     have c9 := O1_ H
     replace H := O2_ H
     have LMc9 := Zz.mk c9
     clear c9
     obtain ⟨y106, hy106⟩ : ∃ y_ : List Int, y_ = (x5_1 ++ [x6_1]) := ⟨_, rfl⟩
     replace H : (z66.l0 k1 l1 y106 (wrap64 (x6_1 + 1)) l0_0) = some r := Y_ hy106 H
     have Ny106 := Zz.mk hy106
     clear hy106
     have H' := Zz.mk H
     clear H
     obtain ⟨hcz10_0, hfz10_0⟩ := Z1f_ BK50.out
     have p104 : 0 ≤ (x6_1 : Int) := D_
     have q104 : x6_1 < (l0_0.length : Int) := D_
     obtain ⟨ad104, A104_0, c104_0, e104, hx104_0, hl104_0, hi104_0⟩ := at_ListInt HR0_0.out x6_1 p104 q104
     cases e104
     replace hx104_0 := (HB.out.cell (World.block_lt_of_cell? w _ hx104_0)).trans hx104_0
     have HR104_0 := Zz.mk hi104_0
     have HC104_0 := Zz.mk hl104_0
     clear hi104_0 hl104_0
     replace p104 := eq_true p104
     replace q104 := eq_true q104
     go_wp2_with (first | ((with_reducible refine gC_ (f := 117) rfl ?_); refine GL_ (some 25) rfl rfl Try.func117 #[.slice A1 l1.length c1, .slice A104_0 (rI_ l0_0 x6_1).length c104_0] rfl (h := ?_); (with_reducible refine (z117.calls k1 _ _ l1 _ _ (rI_ l0_0 x6_1) true _ ?side1 ?side2 ?side3 ?side4 A7.out).mono ?_); (case side1 => exact KC_ (Kd.C_below HR1.out HB.out)); (case side2 => exact HC1.out); (case side3 => exact KC_ (Kd.C_below HR104_0.out HB.out)); (case side4 => exact HC104_0.out); rintro e w' ⟨rfl, ⟨nd, rfl⟩⟩; refine ⟨_, rfl, ?_⟩) | ((with_reducible refine gate_builtin (b := .append) (xs := #[.tmp 26, .tmp 28]) rfl ?_); at_builtin; refine Kd.R_append (Kd.int .i64) (w0 := w) w.heap.size rfl (.tmp 26) (.tmp 28) 26 2 (.int .i64 0) 8 rfl Try.underlying26 info2 rfl (by decide) (by omega) u5 x5_1 x6_1 [.int .i64 x6_1] (fun _ => True) (fun _ => False) rfl rfl ?aP (fun _ hk => hk.elim) ?aF ?aO ?aB ?aS ?aL ?_; (case aP => exact rfl); (case aB => exact (B_ HB.out)); (case aF => exact (fun _ _ => trivial)); (case aO => exact (KR_ HO_5.out)); (case aS => exact (bS_ (B_ HB.out))); (case aL => have := LMc9.out; omega); intro v107 w11 ho hb hg hat; rw [← Ny106.out] at ho; replace BK50 := Zz.mk (blk_grown (g := gp0) (o := .cells #[.slice (some ad104) l0_0.length c0_0] 29 (0, 0)) (KB_ BK50.out) hg (Kd.R_ne HO_5.out BK50.out (by decide))); replace HB := Zz.mk (hb); have HO108 := Zz.mk (ho); clear HO_5; clear ho hb hg hat))
     go_roundg k1
     case measure => exact Q1_ HK1
     case rel => exact ⟨(y106), (wrap64 (x6_1 + 1)), E_, H', ⟨Q1_ HK1⟩, ⟨KR_ HO108.out⟩, ⟨KB_ BK50.out⟩, ⟨B_ HB.out⟩⟩
    replace c8 := Bool.eq_false_iff.mpr c8
    subst c8
    replace H := N_ H
    have H' := Zz.mk H
    clear H
    obtain ⟨hcz12_0, hfz12_0⟩ := Z1f_ BK50.out
    have p104 : 0 ≤ (x6_1 : Int) := D_
    have q104 : x6_1 < (l0_0.length : Int) := D_
    obtain ⟨ad104, A104_0, c104_0, e104, hx104_0, hl104_0, hi104_0⟩ := at_ListInt HR0_0.out x6_1 p104 q104
    cases e104
    replace hx104_0 := (HB.out.cell (World.block_lt_of_cell? w _ hx104_0)).trans hx104_0
    have HR104_0 := Zz.mk hi104_0
    have HC104_0 := Zz.mk hl104_0
    clear hi104_0 hl104_0
    replace p104 := eq_true p104
    replace q104 := eq_true q104
    go_wp2_with (first | ((with_reducible refine gC_ (f := 117) rfl ?_); refine GL_ (some 25) rfl rfl Try.func117 #[.slice A1 l1.length c1, .slice A104_0 (rI_ l0_0 x6_1).length c104_0] rfl (h := ?_); (with_reducible refine (z117.calls k1 _ _ l1 _ _ (rI_ l0_0 x6_1) false _ ?side1 ?side2 ?side3 ?side4 A7.out).mono ?_); (case side1 => exact KC_ (Kd.C_below HR1.out HB.out)); (case side2 => exact HC1.out); (case side3 => exact KC_ (Kd.C_below HR104_0.out HB.out)); (case side4 => exact HC104_0.out); rintro e w' ⟨rfl, ⟨nd, rfl⟩⟩; refine ⟨_, rfl, ?_⟩))
    go_roundg k1
    case measure => exact Q1_ HK1
    case rel => exact ⟨(x5_1), (wrap64 (x6_1 + 1)), E_, H', ⟨Q1_ HK1⟩, ⟨KR_ HO_5.out⟩, ⟨KB_ BK50.out⟩, ⟨B_ HB.out⟩⟩
   rw [if_neg c5] at H
   have c5b0 : decide (x6_1 < (l0_0.length : Int)) = false := decide_eq_false c5
   clear c5
   obtain rfl := OI_ H
   obtain ⟨hcz13_0, hfz13_0⟩ := Z1f_ BK50.out
   go_wp2
   go_ret
   exact ⟨_, F_, KR_ HO_5.out, B_ HB.out⟩
end Go.Proofs.Ytipkciildhghiaa.B
/- Rows of rows, laid open and closed again (for this claim, by hand). -/
set_option linter.unusedVariables false
set_option linter.unusedSimpArgs false
namespace Go.Proofs.Ytipkciildhghiaa.B
open Go.RowKit Go.Proofs.YtipkciildhghiaaW.PrintWords Go.Proofs.YtipkciildhghiaaW.PrintLast Go.Proofs.YtipkciildhghiaaW.PrintMore
section
variable {α : Type} {d : Kd α} {e base : Nat} {ok : Nat → Prop} {W : World} {v : Value} {C : List α}
theorem S_open (h : Kd.S d e W base ok v C) : ∃ (f : Nat → Nat) (rows : List (List Value)), rows.length = C.length ∧ (Kd.raw d.sz).R e W base (fun k => some k = v.ownBlock) v rows ∧ (∀ k, v.ownBlock = some k → ok k) ∧
    ∀ (j : Nat) (x : α) (c : List Value), C[j]? = some x → rows[j]? = some c → d.M W base (fun k => (ok k ∧ some k ≠ v.ownBlock) ∧ f k = j) x c := by
  obtain ⟨f, h0, inner, ho, hr⟩ := h
  have hr' := Kd.reps_raw hr (fun x c hp => ⟨(Kd.tag f d).K_len ((Kd.tag f d).K_of_M hp), (Kd.tag f d).K_one ((Kd.tag f d).K_of_M hp)⟩)
  refine ⟨f, Kd.chunks d.sz C.zipIdx.length inner, by rw [Kd.chunks_length, List.length_zipIdx], ⟨fun k hk => hk.symm, inner, by rw [Kd.chunks_length]; exact ho, hr'⟩, h0, fun j x c hx hc => ?_⟩
  rw [Kd.chunks_get hc]
  exact hr.2 j (x, j) (Kd.zip_at hx)
theorem S_close {rows : List (List Value)} (f : Nat → Nat) (hl : rows.length = C.length) (hR : (Kd.raw d.sz).R e W base (fun k => some k = v.ownBlock) v rows) (h0 : ∀ k, v.ownBlock = some k → ok k)
    (hM : ∀ (j : Nat) (x : α) (c : List Value), C[j]? = some x → rows[j]? = some c → d.M W base (fun k => (ok k ∧ some k ≠ v.ownBlock) ∧ f k = j) x c) : Kd.S d e W base ok v C := by
  obtain ⟨_, inner, ho, hr⟩ := hR
  refine ⟨f, h0, inner, ?_, ?_, ?_⟩
  · rw [List.length_zipIdx, ← hl]; exact ho
  · have := hr.1
    rw [List.length_zipIdx, ← hl]; exact this
  intro j p hj
  obtain ⟨hj1, hj2⟩ := List.getElem?_eq_some_iff.1 hj
  rw [List.length_zipIdx] at hj1
  have hx : C[j]? = some p.1 ∧ p.2 = j := by
    rw [List.getElem?_zipIdx] at hj
    rw [List.getElem?_eq_getElem hj1] at hj ⊢
    simp only [Option.map_some, Option.some.injEq, Nat.zero_add] at hj
    rw [← hj]; exact ⟨rfl, rfl⟩
  have hrj : rows[j]? = some (rows[j]'(by omega)) := List.getElem?_eq_getElem (by omega)
  have h1 := hr.2 j _ hrj
  have h2 := hM j p.1 _ hx.1 hrj
  show d.M W base (fun k => _ ∧ f k = p.2) p.1 _
  rw [hx.2]
  have e1 : (inner.drop (j * d.sz)).take d.sz = rows[j]'(by omega) := h1.1
  show d.M W base _ p.1 ((inner.drop (j * d.sz)).take d.sz)
  rw [e1]
  exact h2
end
theorem S_insert {et er base B a : Nat} {ok okx : Nat → Prop} {w w' : World} {v v' u : Value} {C : List (List Int)} {s : List Int} {f : Nat → Nat} {rows : List (List Value)}
    (hl : rows.length = C.length) (hM : ∀ (j : Nat) (x : List Int) (c : List Value), C[j]? = some x → rows[j]? = some c → (Kd.slice et (Kd.int .i64)).M w base (fun k => (ok k ∧ some k ≠ v.ownBlock) ∧ f k = j) x c)
    (hB : B = w.heap.size) (hbB : base ≤ B) (hmove : ∀ k, ok k → k < B → w'.heap[k]? = w.heap[k]?)
    (hu : Kd.R (Kd.int .i64) et w' B okx u s) (hok : ∀ k, B ≤ k → ok k) (hne : ∀ k, u.ownBlock = some k → some k ≠ v'.ownBlock)
    (hR : (Kd.raw 1).R er w' base (fun k => some k = v'.ownBlock) v' (rows.take a ++ [u] :: rows.drop a)) (hv' : ∀ k, v'.ownBlock = some k → B ≤ k) (ha : a ≤ C.length) :
    Kd.S (Kd.slice et (Kd.int .i64)) er w' base ok v' (C.take a ++ s :: C.drop a) := by
  have hold : ∀ (j i : Nat) (x : List Int) (c : List Value), C[j]? = some x → rows[j]? = some c → (if j < a then j else j + 1) = i → (Kd.slice et (Kd.int .i64)).M w' base (fun k => (ok k ∧ some k ≠ v'.ownBlock) ∧ (if k < B then (if f k < a then f k else f k + 1) else a) = i) x c := by
    intro j i x c hx hc hi
    have h1 := (Kd.slice et (Kd.int .i64)).M_bound (hM j x c hx hc)
    have h2 := Kd.M_step h1 (w1 := w') (fun k hk hlt => hmove k hk.1.1.1 (by omega))
    refine (Kd.slice et (Kd.int .i64)).M_mono (fun k hk => ⟨⟨hk.1.1.1, fun h => ?_⟩, ?_⟩) h2
    · have := hv' k h.symm
      have := hk.2.2.1
      omega
    have h3 := hk.2.2.1
    rw [if_pos (by omega), hk.1.2]
    exact hi
  refine S_close (fun k => if k < B then (if f k < a then f k else f k + 1) else a) ?_ hR (fun k hk => hok k (hv' k hk)) (fun j x c hx hc => ?_)
  · simp only [List.length_append, List.length_take, List.length_cons, List.length_drop]
    omega
  have la : (C.take a).length = a := by rw [List.length_take]; omega
  have ra : (rows.take a).length = a := by rw [List.length_take]; omega
  rcases Nat.lt_trichotomy j a with h | h | h
  · rw [List.getElem?_append_left (by omega), List.getElem?_take, if_pos h] at hx hc
    exact hold j j x c hx hc (if_pos h)
  · subst h
    rw [List.getElem?_append_right (by omega), la, Nat.sub_self] at hx
    rw [List.getElem?_append_right (by omega), ra, Nat.sub_self] at hc
    simp only [List.getElem?_cons_zero, Option.some.injEq] at hx hc
    subst hx; subst hc
    refine ⟨u, rfl, Kd.R_lower (Kd.R_reok rfl hu (fun k hk => ?_)) hbB⟩
    have hbk : B ≤ k := Kd.R_base hu k hk
    exact ⟨⟨hok k hbk, hne k hk⟩, if_neg (by omega)⟩
  rw [List.getElem?_append_right (by omega), la] at hx
  rw [List.getElem?_append_right (by omega), ra] at hc
  obtain ⟨i, hi⟩ : ∃ i, j - a = i + 1 := ⟨j - a - 1, by omega⟩
  rw [hi, List.getElem?_cons_succ, List.getElem?_drop] at hx hc
  exact hold (a + i) j x c hx hc (by rw [if_neg (by omega)]; omega)
end Go.Proofs.Ytipkciildhghiaa.B
/- slices.Concat comes to the rows behind one another (for this claim, by hand). -/
set_option linter.unusedVariables false
set_option linter.unusedSimpArgs false
namespace Go.Proofs.Ytipkciildhghiaa.B
open Go.RowKit Go.Proofs.YtipkciildhghiaaW.PrintWords
theorem total_take1 (l : List (List Int)) (k : Nat) (hk : k < l.length) : total (l.take (k + 1)) = total (l.take k) + (l.getD k []).length := by
  have ht : l.take (k + 1) = l.take k ++ [l.getD k []] := by
    rw [List.take_succ_eq_append_getElem hk, List.getD_eq_getElem?_getD, List.getElem?_eq_getElem hk]; rfl
  rw [ht, total_append]; simp [total]
theorem total_take_all (l : List (List Int)) (k : Nat) : total (l.take k) ≤ total l := by
  have h := total_append (l.take k) (l.drop k)
  rw [List.take_append_drop] at h
  have := total_nonneg (l.drop k)
  omega
theorem flatten_length : ∀ l : List (List Int), (l.flatten.length : Int) = total l
  | [] => rfl
  | x :: l => by rw [List.flatten_cons, List.length_append]; have := flatten_length l; simp only [total]; omega
theorem flatten_take1 (l : List (List Int)) (k : Nat) (hk : k < l.length) : (l.take (k + 1)).flatten = (l.take k).flatten ++ l.getD k [] := by
  have ht : l.take (k + 1) = l.take k ++ [l.getD k []] := by
    rw [List.take_succ_eq_append_getElem hk, List.getD_eq_getElem?_getD, List.getElem?_eq_getElem hk]; rfl
  rw [ht, List.flatten_append]; simp
theorem concat_ev (l : List (List Int)) (hl : l.length < 9223372036854775807) (ht : total l ≤ 17592186044415) : Ev (fun k => z156.f k l) l.flatten := by
  unfold z156.f
  -- the second loop
  have h1 : Ev (fun k => z156.l1 k ([] : List Int) l (l.length : Int) 0) l.flatten := by
    have := (le_iter_inv (fun (s : List Int) (i : Nat) k => z156.l1 k s l (l.length : Int) (i : Int)) (fun i s => s ++ l.getD i []) (fun i s => s = (l.take i).flatten) l.length 0 [] (by simp) (by
      intro j s _ hj hs
      have hj' : j < l.length := by omega
      refine ⟨fun r hr => ?_, by rw [flatten_take1 l j hj', hs]⟩
      refine Ev.step (fun k => z156.l1.eq_2 ..) ?_
      rw [rdl_nat, wrap_succ (by omega)]
      have e1 := total_take1 l j hj'
      have e2 := total_take_all l (j + 1)
      have e3 := flatten_length (l.take j)
      rw [← hs] at e3
      exact ev_pos (by omega) (ev_pos (by omega) (ev_pos (by omega) (ev_pos (by omega) hr)))))
    refine this.1 _ ?_
    refine Ev.step (fun k => z156.l1.eq_2 ..) ?_
    refine ev_neg (by omega) (ev_eq (Ev.now _) ?_)
    rw [this.2, Nat.zero_add, List.take_length]
  have := (le_iter_inv (fun (s : Int) (i : Nat) k => z156.l0 k l s l (l.length : Int) (i : Int)) (fun i s => s + (l.getD i []).length) (fun i s => s = total (l.take i)) l.length 0 0 (by simp [total]) (by
    intro j s _ hj hs
    have hj' : j < l.length := by omega
    have e1 := total_take1 l j hj'
    have e2 := total_take_all l (j + 1)
    have e3 := total_nonneg (l.take j)
    refine ⟨fun r hr => ?_, by rw [e1, hs]⟩
    refine Ev.step (fun k => z156.l0.eq_2 ..) ?_
    rw [rdl_nat, wrap_succ (by omega), wrap_small (x := s + ((l.getD j []).length : Int)) (by omega) (by omega)]
    exact ev_pos (by omega) (ev_pos (by omega) (ev_pos (by omega) (ev_neg (by omega) hr)))))
  refine this.1 _ ?_
  refine Ev.step (fun k => z156.l0.eq_2 ..) ?_
  have e4 : iter (fun i s => s + ((l.getD i []).length : Int)) 0 l.length 0 = total l := by
    rw [this.2, Nat.zero_add, List.take_length]
  rw [e4]
  have e5 := total_nonneg l
  refine ev_neg (by omega) (Ev.bind (a := []) (ev_const ?_) h1)
  unfold slices_Grow_int64_int64.f
  rw [if_pos ⟨⟨rfl, e5⟩, ht⟩]
end Go.Proofs.Ytipkciildhghiaa.B
/- Simplices: what the program's and the reference's tests come to (for this claim, by hand). -/
set_option linter.unusedVariables false
set_option linter.unusedSimpArgs false
namespace Go.Proofs.Ytipkciildhghiaa.B
open Go.RowKit Go.Proofs.YtipkciildhghiaaW.PrintWords
def rises (l : List Int) (i : Nat) : Bool := i == 0 || decide (l.getD (i - 1) 0 < l.getD i 0)
def rising (l : List Int) : Bool := (List.range l.length).all (rises l)
def isSimplex (l : List Int) : Bool := (decide (1 ≤ l.length) && decide (l.length ≤ 4)) && (rising l && l.all fun v => decide (0 ≤ v) && decide (v ≤ 9))
theorem isRising_ev (l : List Int) (hl : l.length < 9223372036854775807) : Ev (fun k => z125.f k l) (rising l) := by
  unfold z125.f
  rcases Nat.eq_zero_or_pos l.length with h0 | h0
  · have : rising l = true := by unfold rising; rw [h0]; rfl
    rw [this]
    refine Ev.step (fun k => z125.l0.eq_2 ..) ?_
    exact ev_neg (by omega) (Ev.now _)
  refine ev_find (fun (i : Nat) k => z125.l0 k l (i : Int)) (fun i => !rises l i) (l.length - 1) 1 (fun i hi hi2 hp r hr => ?_) (fun i hi hi2 hp _ => ?_) (fun hall => ?_)
  · have hp : rises l i = true := by simpa using hp
    unfold rises at hp
    have e : (i == 0) = false := by simpa using (show i ≠ 0 by omega)
    rw [e, Bool.false_or] at hp
    have hp := of_decide_eq_true hp
    refine Ev.step (fun k => z125.l0.eq_2 ..) ?_
    rw [show wrap64 ((i : Int) - 1) = ((i - 1 : Nat) : Int) by rw [wrap_small (by omega) (by omega)]; omega, rd_nat, rd_nat, wrap_succ (by omega)]
    exact ev_pos (by omega) (ev_pos (by omega) (ev_pos (by omega) (ev_pos (by omega) (ev_neg (by omega) hr))))
  · have hp : rises l i = false := by simpa using hp
    have hf : rising l = false := by
      unfold rising
      rw [Bool.eq_false_iff]
      intro h
      have := List.all_eq_true.1 h i (List.mem_range.2 (by omega))
      rw [hp] at this; cases this
    rw [hf]
    unfold rises at hp
    have e : (i == 0) = false := by simpa using (show i ≠ 0 by omega)
    rw [e, Bool.false_or] at hp
    have hp := of_decide_eq_false hp
    refine Ev.step (fun k => z125.l0.eq_2 ..) ?_
    rw [show wrap64 ((i : Int) - 1) = ((i - 1 : Nat) : Int) by rw [wrap_small (by omega) (by omega)]; omega, rd_nat, rd_nat]
    exact ev_pos (by omega) (ev_pos (by omega) (ev_pos (by omega) (ev_pos (by omega) (ev_pos (by omega) (Ev.now _)))))
  have hf : rising l = true := List.all_eq_true.2 (fun i hi => by
    have hi := List.mem_range.1 hi
    rcases Nat.eq_zero_or_pos i with h | h
    · subst h; rfl
    simpa using hall i h (by omega))
  rw [hf, show 1 + (l.length - 1) = l.length by omega]
  refine Ev.step (fun k => z125.l0.eq_2 ..) ?_
  exact ev_neg (by omega) (Ev.now _)
theorem vertex_val (v : Int) : z127.f v = some (!(decide (0 ≤ v) && decide (v ≤ 9))) := by
  unfold z127.f z83.f
  rw [within_val]; rfl
theorem vertices_ev (l : List Int) (hl : l.length < 9223372036854775807) : Ev (fun k => z225.f k l) (l.any fun v => !(decide (0 ≤ v) && decide (v ≤ 9))) := by
  obtain ⟨t, ht, hd⟩ := ev_index_list (l) 0 (fun i k => z226.l0 k (l) ((l).length : Int) (i : Int) ) (fun v => !(decide (0 ≤ v) && decide (v ≤ 9))) (fun j hj hp r hr => by
      refine Ev.step (fun k => z226.l0.eq_2 ..) ?_
      refine ev_pos (by omega) (ev_pos (by omega) (ev_pos (by omega) ?_))
      rw [rd_nat, wrap_succ (by omega)]
      exact Ev.bind (ev_const (vertex_val _)) (ev_neg (by rw [hp]; decide) hr)) (fun j hj hp => by
      refine Ev.step (fun k => z226.l0.eq_2 ..) ?_
      refine ev_pos (by omega) (ev_pos (by omega) (ev_pos (by omega) ?_))
      rw [rd_nat]
      exact Ev.bind (ev_const (vertex_val _)) (ev_pos hp (Ev.now _))) (by
      refine Ev.step (fun k => z226.l0.eq_2 ..) ?_
      exact ev_neg (by omega) (Ev.now _))
  unfold z225.f z226.f
  refine Ev.bind ht (ev_eq (Ev.now _) hd)
theorem implSimplex_ev (l : List Int) (hl : l.length < 9223372036854775807) : Ev (fun k => z77.f k l) (isSimplex l) := by
  unfold z77.f isSimplex
  by_cases h1 : 1 ≤ l.length
  · rw [decide_eq_true h1, Bool.true_and]
    refine ev_pos (by omega) ?_
    by_cases h4 : l.length ≤ 4
    · rw [decide_eq_true h4, Bool.true_and]
      refine ev_pos (by omega) (Ev.bind (isRising_ev l hl) ?_)
      cases hr : rising l with
      | false => exact ev_neg (by decide) (Ev.now _)
      | true =>
        refine ev_pos rfl (Ev.bind (vertices_ev l hl) (ev_eq (Ev.now _) ?_))
        rw [List.any_eq_not_all_not]; simp
    rw [decide_eq_false h4, Bool.false_and]
    exact ev_neg (by omega) (Ev.now _)
  rw [decide_eq_false h1, Bool.false_and, Bool.false_and]
  exact ev_neg (by omega) (Ev.now _)
theorem specRises_ev (l : List Int) (a b : Int) (hl : l.length < 9223372036854775807) : Ev (fun k => z123.f k l a b) (rising l && l.all fun v => decide (a ≤ v) && decide (v ≤ b)) := by
  have e : (rising l && l.all fun v => decide (a ≤ v) && decide (v ≤ b)) = (List.range l.length).all fun i => (decide (a ≤ l.getD i 0) && decide (l.getD i 0 ≤ b)) && rises l i := by
    rw [← all_range l 0, rising, Bool.eq_iff_iff, Bool.and_eq_true, List.all_eq_true, List.all_eq_true, List.all_eq_true]
    constructor
    · rintro ⟨h1, h2⟩ i hi
      rw [h1 i hi, h2 i hi]; rfl
    intro h
    exact ⟨fun i hi => ((Bool.and_eq_true _ _).mp (h i hi)).2, fun i hi => ((Bool.and_eq_true _ _).mp (h i hi)).1⟩
  rw [e]
  unfold z123.f
  refine ev_all (fun (i : Nat) k => z123.l0 k l a b (i : Int)) _ l.length (fun i hi hp r hr => ?_) (fun i hi hp => ?_) ?_
  · obtain ⟨h1, h2⟩ := (Bool.and_eq_true _ _).mp hp
    refine Ev.step (fun k => z123.l0.eq_2 ..) ?_
    rw [rd_nat, wrap_succ (by omega)]
    refine ev_pos (by omega) (ev_pos (by omega) (Ev.bind (ev_const (in_val _ _ _)) (ev_pos h1 ?_)))
    rcases Nat.eq_zero_or_pos i with h | h
    · exact ev_neg (by omega) hr
    have e : (i == 0) = false := by simpa using (show i ≠ 0 by omega)
    unfold rises at h2
    rw [e, Bool.false_or] at h2
    have h2 := of_decide_eq_true h2
    rw [show wrap64 ((i : Int) - 1) = ((i - 1 : Nat) : Int) by rw [wrap_small (by omega) (by omega)]; omega, rd_nat]
    exact ev_pos (by omega) (ev_pos (by omega) (ev_pos (by omega) (ev_neg (by omega) hr)))
  · refine Ev.step (fun k => z123.l0.eq_2 ..) ?_
    rw [rd_nat]
    refine ev_pos (by omega) (ev_pos (by omega) (Ev.bind (ev_const (in_val _ _ _)) ?_))
    cases h1 : decide (a ≤ l.getD i 0) && decide (l.getD i 0 ≤ b) with
    | false => exact ev_neg (by decide) (Ev.now _)
    | true =>
      rw [h1, Bool.true_and] at hp
      refine ev_pos rfl ?_
      rcases Nat.eq_zero_or_pos i with h | h
      · subst h; cases hp
      have e : (i == 0) = false := by simpa using (show i ≠ 0 by omega)
      unfold rises at hp
      rw [e, Bool.false_or] at hp
      have hp := of_decide_eq_false hp
      rw [show wrap64 ((i : Int) - 1) = ((i - 1 : Nat) : Int) by rw [wrap_small (by omega) (by omega)]; omega, rd_nat]
      exact ev_pos (by omega) (ev_pos (by omega) (ev_pos (by omega) (ev_pos (by omega) (Ev.now _))))
  refine Ev.step (fun k => z123.l0.eq_2 ..) ?_
  exact ev_neg (by omega) (Ev.now _)
theorem specSimplex_ev (l : List Int) (hl : l.length < 9223372036854775807) : Ev (fun k => z73.f k l) (isSimplex l) := by
  unfold z73.f isSimplex
  refine Ev.bind (ev_const (in_val _ _ _)) ?_
  have e : (decide ((1 : Int) ≤ (l.length : Int)) && decide ((l.length : Int) ≤ 4)) = (decide (1 ≤ l.length) && decide (l.length ≤ 4)) := by
    rw [Bool.eq_iff_iff]; simp; omega
  rw [e]
  cases h : decide (1 ≤ l.length) && decide (l.length ≤ 4) with
  | false => exact ev_neg (by decide) (Ev.now _)
  | true => exact ev_pos rfl (Ev.bind (specRises_ev l 0 9 hl) (Ev.now _))
end Go.Proofs.Ytipkciildhghiaa.B
