/- Printed proofs of functions of the program and of the reference, by a program of this work over the kit's printer. -/
import Derived.Test.YtipkciildhghiaaKHGNPLP0
import Derived.Test.YtipkciildhghiaaKJAGPEI0
import Derived.Test.YtipkciildhghiaaKKEBAJI0
import Derived.Test.YtipkciildhghiaaKW0
set_option maxHeartbeats 8000000
set_option maxRecDepth 100000
namespace Go.Proofs.Ytipkciildhghiaa.B
open Go.RowKit Go.Proofs.YtipkciildhghiaaW.PrintWords Go.Proofs.YtipkciildhghiaaW.PrintLast Go.Proofs.YtipkciildhghiaaW.PrintMore
attribute [local go_sem] qAi qAg qAl qAk qAe qAd qAh qAf
set_option linter.unusedVariables false
set_option linter.unusedSimpArgs false
def z205.f (a0 : Int) (a1 : Int) : Option (Bool) := (z113.f a0 0 (wrap64 (a1 - 1))).bind fun t101 => (some t101)
theorem z205.calls (a0 : Int) (a1 : Int) (r : Bool) (w : World) (h : z205.f a0 a1 = some r) :
  Calls Try.prog 205 #[.int .i64 a0, .int .i64 a1] w fun e w' => e = .returned (.bool r) ∧ Dz w w' := by
 have H : ((z113.f a0 0 (wrap64 (a1 - 1))).bind fun t101 => (some t101)) = some r := h
 clear h
 replace H := OZ_ H
 obtain ⟨t101, A3, H⟩ := H
 obtain rfl := OI_ H
 go_enter Try.func205, Try.ntmps205
 go_wp2_with (first | ((with_reducible refine gC_ (f := 113) rfl ?_); refine GL_ (some 8) rfl rfl Try.func113 #[.int .i64 a0, .int .i64 0, .int .i64 (wrap64 (a1 - 1))] rfl (h := ?_); (with_reducible refine (z113.calls a0 0 (wrap64 (a1 - 1)) t101 _ A3.out).mono ?_); rintro e w' ⟨rfl, ⟨nd, rfl⟩⟩; refine ⟨_, rfl, ?_⟩))
 go_ret
 exact ⟨by first | rfl | (simp; done) | (simp [*]; done), by repeat (first | exact Dz.refl _ | apply Dz.step)⟩
def z204.f (a0 : Int) (a1_0 : Int) : Option (Bool) := (z205.f a0 a1_0).bind fun t101 => (some (!t101))
theorem z204.calls (a0 : Int) (gp1 : Nat) (a1_0 : Int) (r : Bool) (w : World) (hbp1 : w.heap[gp1]? = some (.cells #[.int .i64 a1_0] 2 (0, 0))) (h : z204.f a0 a1_0 = some r) :
  Calls Try.prog 204 #[.int .i64 a0, .pointer (some ⟨gp1, 0, none⟩)] w fun e w' => e = .returned (.bool r) ∧ Dz w w' := by
 have BK51 := Zz.mk hbp1
 clear hbp1
 have H : ((z205.f a0 a1_0).bind fun t101 => (some (!t101))) = some r := h
 clear h
 replace H := OZ_ H
 obtain ⟨t101, A3, H⟩ := H
 obtain rfl := OI_ H
 obtain ⟨hcz4_0, hfz4_0⟩ := Z1f_ BK51.out
 go_enter Try.func204, Try.ntmps204
 go_wp2_with (first | ((with_reducible refine gC_ (f := 205) rfl ?_); refine GL_ (some 6) rfl rfl Try.func205 #[.int .i64 a0, .int .i64 a1_0] rfl (h := ?_); (with_reducible refine (z205.calls a0 a1_0 t101 _ A3.out).mono ?_); rintro e w' ⟨rfl, ⟨nd, rfl⟩⟩; refine ⟨_, rfl, ?_⟩))
 go_ret
 exact ⟨by first | rfl | (simp; done) | (simp [*]; done), by repeat (first | exact Dz.refl _ | apply Dz.step)⟩
def z252.l0 : Nat → List Int → Int → Int → Int → Option (Int)
 | 0, _, _, _, _ => none
 | k + 1, x0, x7, x8, x69000 => if x8 < x7 then (if 0 ≤ x8 then (if x8 < (x0.length : Int) then ((z204.f (rd x0 x8) x69000).bind fun t102 => (if t102 = true then (some x8) else (z252.l0 k x0 x7 (wrap64 (x8 + 1)) x69000))) else (none)) else (none)) else (some (-1))
def z252.f (k : Nat) (l0 : List Int) (a1_0 : Int) : Option (Int) := z252.l0 k l0 (l0.length : Int) 0 a1_0
theorem z252.calls (k : Nat) (A0 : Option Addr) (c0 : Nat) (l0 : List Int) (gp1_0 : Nat) (a1_0 : Int) (r : Int) (w : World) (hbp1_0 : w.heap[gp1_0]? = some (.cells #[.int .i64 a1_0] 2 (0, 0))) (hr0 : Kd.C (Kd.int .i64) w A0 l0.length l0) (hc0 : l0.length ≤ c0) (h : z252.f k l0 a1_0 = some r) :
  Calls Try.prog 159 #[.slice A0 l0.length c0, .func (.func 204) #[] #[.pointer (some ⟨gp1_0, 0, none⟩)]] w fun e w' => e = .returned (.int .i64 r) ∧ Below w.heap.size w w' := by
 have HR0 := Zz.mk hr0
 have HC0 := Zz.mk hc0
 clear hr0 hc0
 have BK68 := Zz.mk hbp1_0
 clear hbp1_0
 have HB := Zz.mk (Below.refl w.heap.size w)
 have H : (z252.l0 k l0 (l0.length : Int) 0 a1_0) = some r := h
 clear h
 have H' := Zz.mk H
 clear H
 go_enter Try.func159, Try.ntmps159
 go_wp2
 go_loopg [8] k (fun kq v8 w' => ∃ (x8_1 : Int), v8 = .int .i64 x8_1 ∧ Zz (z252.l0 kq l0 (l0.length : Int) x8_1 a1_0 = some r) ∧ Zz (kq ≤ k) ∧ Zz (w'.heap[gp1_0]? = some (.cells #[.int .i64 a1_0] 2 (0, 0))) ∧ Zz (Below w.heap.size w w'))
 case atStart => exact ⟨(0), E_, H', ⟨Nat.le_refl _⟩, ⟨KB_ BK68.out⟩, ⟨B_ HB.out⟩⟩
 case round =>
  clear H'
  obtain ⟨x8_1, rfl, HA, HK1, BK68, HB⟩ := hrel
  cases gk with
  | zero => exact absurd HA.out (by simp [z252.l0])
  | succ k1 =>
   have H := HA.out
   clear HA
   simp only [z252.l0] at H
   by_cases c3 : x8_1 < (l0.length : Int)
   ·rw [if_pos c3] at H
    have c3b0 : decide (x8_1 < (l0.length : Int)) = true := decide_eq_true c3
    clear c3
    have c4b0 := O3_ H
    replace H := O2_ H
    have c5b0 := O3_ H
    replace H := O2_ H
    replace H := OZ_ H
    obtain ⟨t102, A6, H⟩ := H
    by_cases c7 : t102 = true
    ·subst c7
     replace H := T_ H
     obtain rfl := OI_ H
     have p101 : 0 ≤ (x8_1 : Int) := D_
     have q101 : x8_1 < (l0.length : Int) := D_
     obtain ⟨ad101, e101, hx101_0⟩ := Kd.at_int HR0.out x8_1 p101 q101
     cases e101
     replace hx101_0 := (HB.out.cell (World.block_lt_of_cell? w _ hx101_0)).trans hx101_0
     replace p101 := eq_true p101
     replace q101 := eq_true q101
     go_wp2_with (first | (go_at_call 204; (with_reducible refine (z204.calls (rd l0 x8_1) gp1_0 a1_0 true _ ?side1 A6.out).mono ?_); (case side1 => refine BW_ ?_; exact BK68.out); rintro e w' ⟨rfl, ⟨nd, rfl⟩⟩))
     go_ret
     exact ⟨F_, B_ HB.out⟩
    replace c7 := Bool.eq_false_iff.mpr c7
    subst c7
    replace H := N_ H
    have H' := Zz.mk H
    clear H
    have p101 : 0 ≤ (x8_1 : Int) := D_
    have q101 : x8_1 < (l0.length : Int) := D_
    obtain ⟨ad101, e101, hx101_0⟩ := Kd.at_int HR0.out x8_1 p101 q101
    cases e101
    replace hx101_0 := (HB.out.cell (World.block_lt_of_cell? w _ hx101_0)).trans hx101_0
    replace p101 := eq_true p101
    replace q101 := eq_true q101
    go_wp2_with (first | (go_at_call 204; (with_reducible refine (z204.calls (rd l0 x8_1) gp1_0 a1_0 false _ ?side1 A6.out).mono ?_); (case side1 => refine BW_ ?_; exact BK68.out); rintro e w' ⟨rfl, ⟨nd, rfl⟩⟩))
    go_roundg k1
    case measure => exact Q1_ HK1
    case rel => exact ⟨(wrap64 (x8_1 + 1)), E_, H', ⟨Q1_ HK1⟩, ⟨KB_ BK68.out⟩, ⟨B_ HB.out⟩⟩
   rw [if_neg c3] at H
   have c3b0 : decide (x8_1 < (l0.length : Int)) = false := decide_eq_false c3
   clear c3
   obtain rfl := OI_ H
   go_wp2
   go_ret
   exact ⟨F_, B_ HB.out⟩
def z251.f (k : Nat) (l0 : List Int) (a1_0 : Int) : Option (Bool) := (z252.f k l0 a1_0).bind fun t101 => (some (decide (t101 ≥ 0)))
theorem z251.calls (k : Nat) (A0 : Option Addr) (c0 : Nat) (l0 : List Int) (gp1_0 : Nat) (a1_0 : Int) (r : Bool) (w : World) (hbp1_0 : w.heap[gp1_0]? = some (.cells #[.int .i64 a1_0] 2 (0, 0))) (hr0 : Kd.C (Kd.int .i64) w A0 l0.length l0) (hc0 : l0.length ≤ c0) (h : z251.f k l0 a1_0 = some r) :
  Calls Try.prog 126 #[.slice A0 l0.length c0, .func (.func 204) #[] #[.pointer (some ⟨gp1_0, 0, none⟩)]] w fun e w' => e = .returned (.bool r) ∧ Below w.heap.size w w' := by
 have HR0 := Zz.mk hr0
 have HC0 := Zz.mk hc0
 clear hr0 hc0
 have BK68 := Zz.mk hbp1_0
 clear hbp1_0
 have HB := Zz.mk (Below.refl w.heap.size w)
 have H : ((z252.f k l0 a1_0).bind fun t101 => (some (decide (t101 ≥ 0)))) = some r := h
 clear h
 replace H := OZ_ H
 obtain ⟨t101, A3, H⟩ := H
 obtain rfl := OI_ H
 go_enter Try.func126, Try.ntmps126
 go_wp2_with (first | ((with_reducible refine gC_ (f := 159) rfl ?_); refine GL_ (some 7) rfl rfl Try.func159 #[.slice A0 l0.length c0, .func (.func 204) #[] #[.pointer (some ⟨gp1_0, 0, none⟩)]] rfl (h := ?_); (with_reducible refine (z252.calls k _ _ l0 gp1_0 a1_0 t101 _ ?side1 ?side2 ?side3 A3.out).mono ?_); (case side1 => refine BW_ ?_; exact BK68.out); (case side2 => exact KC_ HR0.out); (case side3 => exact HC0.out); rintro e w4 ⟨rfl, hb⟩; refine ⟨_, rfl, ?_⟩; replace BK68 := Zz.mk (bB_ (g := gp1_0) (o := .cells #[.int .i64 a1_0] 2 (0, 0)) (KB_ BK68.out) hb); replace HB := Zz.mk (bT_ (B_ HB.out) hb); (try clear hb); (try clear hb2); (try clear hk); (try clear hi)))
 go_ret
 exact ⟨F_, B_ HB.out⟩
def z198.f (k : Nat) (l0 : List Int) (a1 : Int) : Option (Bool) := (z251.f k l0 a1).bind fun t102 => (some (!t102))
theorem z198.calls (k : Nat) (A0 : Option Addr) (c0 : Nat) (l0 : List Int) (a1 : Int) (r : Bool) (w : World) (hr0 : Kd.C (Kd.int .i64) w A0 l0.length l0) (hc0 : l0.length ≤ c0) (h : z198.f k l0 a1 = some r) :
  Calls Try.prog 198 #[.slice A0 l0.length c0, .int .i64 a1] w fun e w' => e = .returned (.bool r) ∧ Below w.heap.size w w' := by
 have HR0 := Zz.mk hr0
 have HC0 := Zz.mk hc0
 clear hr0 hc0
 have HB := Zz.mk (Below.refl w.heap.size w)
 have H : ((z251.f k l0 a1).bind fun t102 => (some (!t102))) = some r := h
 clear h
 replace H := OZ_ H
 obtain ⟨t102, A3, H⟩ := H
 obtain rfl := OI_ H
 go_enter Try.func198, Try.ntmps198
 go_wp2_with (first | ((with_reducible refine qAb (N := 3) rfl ?_); refine qAc ?hg (N := 3) ?hd (cs := #[.int .i64 a1]) (t := 2) ?hr ?_; (case hd => rfl); (case hg => rfl); (case hr => first | (go_simp; done) | (go_simp; rfl)); intro gb101 hg w4 hbox hb; have BK101 := Zz.mk (hbox); have GW101 := Zz.mk ((by rw [hg]; exact (bS_ (B_ HB.out)) : w.heap.size ≤ gb101)); have GE101 := GW101; replace HB := Zz.mk (bT_ (B_ HB.out) hb); clear hb hbox hg) | ((with_reducible refine gC_ (f := 126) rfl ?_); refine GL_ (some 7) rfl rfl Try.func126 #[.slice A0 l0.length c0, .func (.func 204) #[] #[.pointer (some ⟨gb101, 0, none⟩)]] rfl (h := ?_); (with_reducible refine (z251.calls k _ _ l0 gb101 a1 t102 _ ?side1 ?side2 ?side3 A3.out).mono ?_); (case side1 => refine BW_ ?_; exact BK101.out); (case side2 => exact KC_ (Kd.C_below HR0.out HB.out)); (case side3 => exact HC0.out); rintro e w5 ⟨rfl, hb⟩; refine ⟨_, rfl, ?_⟩; replace BK101 := Zz.mk (bB_ (g := gb101) (o := .cells #[.int .i64 a1] 2 (0, 0)) (KB_ BK101.out) hb); replace HB := Zz.mk (bT_ (B1_ HB.out GE101.out) hb); (try clear hb); (try clear hb2); (try clear hk); (try clear hi)))
 go_ret
 exact ⟨F_, B1_ HB.out GE101.out⟩
def z174.f (k : Nat) (l0 : List Int) (a1 : Int) (a2 : Int) : Option (Bool) := (z63.f l0).bind fun t101 => (if t101 = a1 then ((z198.f k l0 a2).bind fun t102 => (some t102)) else (some false))
theorem z174.calls (k : Nat) (A0 : Option Addr) (c0 : Nat) (l0 : List Int) (a1 : Int) (a2 : Int) (r : Bool) (w : World) (hr0 : Kd.C (Kd.int .i64) w A0 l0.length l0) (hc0 : l0.length ≤ c0) (h : z174.f k l0 a1 a2 = some r) :
  Calls Try.prog 174 #[.slice A0 l0.length c0, .int .i64 a1, .int .i64 a2] w fun e w' => e = .returned (.bool r) ∧ Below w.heap.size w w' := by
 have HR0 := Zz.mk hr0
 have HC0 := Zz.mk hc0
 clear hr0 hc0
 have HB := Zz.mk (Below.refl w.heap.size w)
 have H : ((z63.f l0).bind fun t101 => (if t101 = a1 then ((z198.f k l0 a2).bind fun t102 => (some t102)) else (some false))) = some r := h
 clear h
 replace H := OZ_ H
 obtain ⟨t101, A4, H⟩ := H
 by_cases c5 : t101 = a1
 ·rw [if_pos c5] at H
  have c5b0 : (t101 == a1) = true := beq_iff_eq.mpr c5
  have c5b1 : (t101 != a1) = false := bne_eq_false_iff_eq.mpr c5
  clear c5
  replace H := OZ_ H
  obtain ⟨t102, A6, H⟩ := H
  obtain rfl := OI_ H
  go_enter Try.func174, Try.ntmps174
  go_wp2_with (first | ((with_reducible refine gC_ (f := 63) rfl ?_); refine GL_ (some 8) rfl rfl Try.func63 #[.slice A0 l0.length c0] rfl (h := ?_); (with_reducible refine (z63.calls _ _ l0 t101 _ ?side1 ?side2 A4.out).mono ?_); (case side1 => exact KC_ HR0.out); (case side2 => exact HC0.out); rintro e w' ⟨rfl, ⟨nd, rfl⟩⟩; refine ⟨_, rfl, ?_⟩) | (go_at_call 198; (with_reducible refine (z198.calls k _ _ l0 a2 t102 _ ?side1 ?side2 A6.out).mono ?_); (case side1 => exact KC_ HR0.out); (case side2 => exact HC0.out); rintro e w7 ⟨rfl, hb⟩; replace HB := Zz.mk (bT_ (B_ HB.out) hb); (try clear hb); (try clear hb2); (try clear hk); (try clear hi)))
  go_ret
  exact ⟨F_, B_ HB.out⟩
 rw [if_neg c5] at H
 have c5b0 : (t101 == a1) = false := beq_eq_false_iff_ne.mpr c5
 have c5b1 : (t101 != a1) = true := bne_iff_ne.mpr c5
 obtain rfl := OI_ H
 go_enter Try.func174, Try.ntmps174
 go_wp2_with (first | ((with_reducible refine gC_ (f := 63) rfl ?_); refine GL_ (some 8) rfl rfl Try.func63 #[.slice A0 l0.length c0] rfl (h := ?_); (with_reducible refine (z63.calls _ _ l0 t101 _ ?side1 ?side2 A4.out).mono ?_); (case side1 => exact KC_ HR0.out); (case side2 => exact HC0.out); rintro e w' ⟨rfl, ⟨nd, rfl⟩⟩; refine ⟨_, rfl, ?_⟩))
 go_ret
 exact ⟨F_, B_ HB.out⟩
def z142.f (k : Nat) (l0_0 : List (List Int)) (a1 : Int) (a2 : Int) (l3 : List Int) : Option (Bool) := (z93.f k l0_0 a1).bind fun t102 => ((z63.f t102).bind fun t105 => ((z174.f k l3 t105 a2).bind fun t106 => (some t106)))
theorem z142.calls (k : Nat) (A0_0 : Option Addr) (c0_0 : Nat) (l0_0 : List (List Int)) (a1 : Int) (a2 : Int) (A3 : Option Addr) (c3 : Nat) (l3 : List Int) (r : Bool) (w : World) (hr0_0 : Kd.C (Kd.slice 2 (Kd.int .i64)) w A0_0 l0_0.length l0_0) (hc0_0 : l0_0.length ≤ c0_0) (hr3 : Kd.C (Kd.int .i64) w A3 l3.length l3) (hc3 : l3.length ≤ c3) (h : z142.f k l0_0 a1 a2 l3 = some r) :
  Calls Try.prog 142 #[.agg #[.slice A0_0 l0_0.length c0_0], .int .i64 a1, .int .i64 a2, .slice A3 l3.length c3] w fun e w' => e = .returned (.bool r) ∧ Below w.heap.size w w' := by
 have hu29 := Try.underlying29
 have HR0_0 := Zz.mk hr0_0
 have HC0_0 := Zz.mk hc0_0
 clear hr0_0 hc0_0
 have HR3 := Zz.mk hr3
 have HC3 := Zz.mk hc3
 clear hr3 hc3
 have HB := Zz.mk (Below.refl w.heap.size w)
 have H : ((z93.f k l0_0 a1).bind fun t102 => ((z63.f t102).bind fun t105 => ((z174.f k l3 t105 a2).bind fun t106 => (some t106)))) = some r := h
 clear h
 replace H := OZ_ H
 obtain ⟨t102, A5, H⟩ := H
 replace H := OZ_ H
 obtain ⟨t105, A6, H⟩ := H
 replace H := OZ_ H
 obtain ⟨t106, A7, H⟩ := H
 obtain rfl := OI_ H
 go_enter Try.func142, Try.ntmps142
 go_wp2_with (first | ((with_reducible refine qAb (N := 4) rfl ?_); refine qAc ?hg (N := 4) ?hd (cs := #[.slice A0_0 l0_0.length c0_0]) (t := 29) ?hr ?_; (case hd => rfl); (case hg => rfl); (case hr => first | (go_simp; done) | (go_simp; rfl)); intro gb101 hg w8 hbox hb; have BK101 := Zz.mk (hbox); have GW101 := Zz.mk ((by rw [hg]; exact (bS_ (B_ HB.out)) : w.heap.size ≤ gb101)); have GE101 := GW101; replace HB := Zz.mk (bT_ (B_ HB.out) hb); clear hb hbox hg; obtain ⟨hcz9_0, hfz9_0⟩ := Z1f_ BK101.out) | ((with_reducible refine gC_ (f := 93) rfl ?_); refine GL_ (some 12) rfl rfl Try.func93 #[.agg #[.slice A0_0 l0_0.length c0_0], .int .i64 a1] rfl (h := ?_); (with_reducible refine (z93.calls k _ _ l0_0 a1 t102 _ ?side1 ?side2 A5.out).mono ?_); (case side1 => exact KC_ (Kd.C_below HR0_0.out HB.out)); (case side2 => exact HC0_0.out); rintro e w10 ⟨v103, rfl, ho0, hb⟩; refine ⟨_, rfl, ?_⟩; have HO104 := Zz.mk (Kd.R_lower ho0 (bS_ (B1_ HB.out GE101.out))); replace BK101 := Zz.mk (bB_ (g := gb101) (o := .cells #[.slice A0_0 l0_0.length c0_0] 29 (0, 0)) (KB_ BK101.out) hb); replace HB := Zz.mk (bT_ (B1_ HB.out GE101.out) hb); (try clear hb); (try clear hb2); (try clear hk); (try clear hi); (try clear ho0); obtain ⟨Ao11, co11, eo11⟩ := Kd.R_slice HO104.out; subst eo11) | ((with_reducible refine gC_ (f := 63) rfl ?_); refine GL_ (some 13) rfl rfl Try.func63 #[.slice Ao11 t102.length co11] rfl (h := ?_); (with_reducible refine (z63.calls _ _ t102 t105 _ ?side1 ?side2 A6.out).mono ?_); (case side1 => exact KC_ (Kd.R_reads' HO104.out).2.2); (case side2 => exact (Kd.R_reads' HO104.out).2.1); rintro e w' ⟨rfl, ⟨nd, rfl⟩⟩; refine ⟨_, rfl, ?_⟩) | ((with_reducible refine gC_ (f := 174) rfl ?_); refine GL_ (some 15) rfl rfl Try.func174 #[.slice A3 l3.length c3, .int .i64 t105, .int .i64 a2] rfl (h := ?_); (with_reducible refine (z174.calls k _ _ l3 t105 a2 t106 _ ?side1 ?side2 A7.out).mono ?_); (case side1 => repeat (first | exact (Kd.C_below HR3.out (B1_ HB.out GE101.out)) | (with_reducible refine Kd.C_alloc ?_ _) | (with_reducible refine Kd.C_drewN ?_ _) | (with_reducible refine Kd.C_drew ?_))); (case side2 => exact HC3.out); rintro e w12 ⟨rfl, hb⟩; refine ⟨_, rfl, ?_⟩; replace HO104 := Zz.mk (Kd.R_below (KR_ HO104.out) hb); replace BK101 := Zz.mk (bB_ (g := gb101) (o := .cells #[.slice A0_0 l0_0.length c0_0] 29 (0, 0)) (KB_ BK101.out) hb); replace HB := Zz.mk (bT_ (B1_ HB.out GE101.out) hb); (try clear hb); (try clear hb2); (try clear hk); (try clear hi)))
 go_ret
 exact ⟨F_, B1_ HB.out GE101.out⟩
def z99.f (k : Nat) (l0_0 : List (List Int)) (a1 : Int) (a2 : Int) (l3 : List Int) : Option (Int) := (z92.f k l0_0 a1 a2).bind fun t102 => (if t102 = 0 then ((z142.f k l0_0 a1 a2 l3).bind fun t103 => (if t103 = true then (some 0) else (some 7))) else (some t102))
theorem z99.calls (k : Nat) (A0_0 : Option Addr) (c0_0 : Nat) (l0_0 : List (List Int)) (a1 : Int) (a2 : Int) (A3 : Option Addr) (c3 : Nat) (l3 : List Int) (r : Int) (w : World) (hr0_0 : Kd.C (Kd.slice 2 (Kd.int .i64)) w A0_0 l0_0.length l0_0) (hc0_0 : l0_0.length ≤ c0_0) (hr3 : Kd.C (Kd.int .i64) w A3 l3.length l3) (hc3 : l3.length ≤ c3) (h : z99.f k l0_0 a1 a2 l3 = some r) :
  Calls Try.prog 99 #[.agg #[.slice A0_0 l0_0.length c0_0], .int .i64 a1, .int .i64 a2, .slice A3 l3.length c3] w fun e w' => e = .returned (.int .i64 r) ∧ Below w.heap.size w w' := by
 have hu29 := Try.underlying29
 have HR0_0 := Zz.mk hr0_0
 have HC0_0 := Zz.mk hc0_0
 clear hr0_0 hc0_0
 have HR3 := Zz.mk hr3
 have HC3 := Zz.mk hc3
 clear hr3 hc3
 have HB := Zz.mk (Below.refl w.heap.size w)
 have H : ((z92.f k l0_0 a1 a2).bind fun t102 => (if t102 = 0 then ((z142.f k l0_0 a1 a2 l3).bind fun t103 => (if t103 = true then (some 0) else (some 7))) else (some t102))) = some r := h
 clear h
 replace H := OZ_ H
 obtain ⟨t102, A5, H⟩ := H
 by_cases c6 : t102 = 0
 ·rw [if_pos c6] at H
  have c6b0 : (t102 == 0) = true := beq_iff_eq.mpr c6
  have c6b1 : (t102 != 0) = false := bne_eq_false_iff_eq.mpr c6
  clear c6
  replace H := OZ_ H
  obtain ⟨t103, A7, H⟩ := H
  by_cases c8 : t103 = true
  ·subst c8
   replace H := T_ H
   obtain rfl := OI_ H
   go_enter Try.func99, Try.ntmps99
   go_wp2_with (first | ((with_reducible refine qAb (N := 4) rfl ?_); refine qAc ?hg (N := 4) ?hd (cs := #[.slice A0_0 l0_0.length c0_0]) (t := 29) ?hr ?_; (case hd => rfl); (case hg => rfl); (case hr => first | (go_simp; done) | (go_simp; rfl)); intro gb101 hg w9 hbox hb; have BK101 := Zz.mk (hbox); have GW101 := Zz.mk ((by rw [hg]; exact (bS_ (B_ HB.out)) : w.heap.size ≤ gb101)); have GE101 := GW101; replace HB := Zz.mk (bT_ (B_ HB.out) hb); clear hb hbox hg; obtain ⟨hcz10_0, hfz10_0⟩ := Z1f_ BK101.out) | ((with_reducible refine gC_ (f := 92) rfl ?_); refine GL_ (some 13) rfl rfl Try.func92 #[.agg #[.slice A0_0 l0_0.length c0_0], .int .i64 a1, .int .i64 a2] rfl (h := ?_); (with_reducible refine (z92.calls k _ _ l0_0 a1 a2 t102 _ ?side1 ?side2 A5.out).mono ?_); (case side1 => exact KC_ (Kd.C_below HR0_0.out HB.out)); (case side2 => exact HC0_0.out); rintro e w11 ⟨rfl, hb⟩; refine ⟨_, rfl, ?_⟩; replace BK101 := Zz.mk (bB_ (g := gb101) (o := .cells #[.slice A0_0 l0_0.length c0_0] 29 (0, 0)) (KB_ BK101.out) hb); replace HB := Zz.mk (bT_ (B1_ HB.out GE101.out) hb); (try clear hb); (try clear hb2); (try clear hk); (try clear hi); obtain ⟨hcz12_0, hfz12_0⟩ := Z1f_ BK101.out) | ((with_reducible refine gC_ (f := 142) rfl ?_); refine GL_ (some 21) rfl rfl Try.func142 #[.agg #[.slice A0_0 l0_0.length c0_0], .int .i64 a1, .int .i64 a2, .slice A3 l3.length c3] rfl (h := ?_); (with_reducible refine (z142.calls k _ _ l0_0 a1 a2 _ _ l3 true _ ?side1 ?side2 ?side3 ?side4 A7.out).mono ?_); (case side1 => exact KC_ (Kd.C_below HR0_0.out HB.out)); (case side2 => exact HC0_0.out); (case side3 => exact KC_ (Kd.C_below HR3.out HB.out)); (case side4 => exact HC3.out); rintro e w13 ⟨rfl, hb⟩; refine ⟨_, rfl, ?_⟩; replace BK101 := Zz.mk (bB_ (g := gb101) (o := .cells #[.slice A0_0 l0_0.length c0_0] 29 (0, 0)) (KB_ BK101.out) hb); replace HB := Zz.mk (bT_ (B1_ HB.out GE101.out) hb); (try clear hb); (try clear hb2); (try clear hk); (try clear hi)))
   go_ret
   exact ⟨F_, B1_ HB.out GE101.out⟩
  replace c8 := Bool.eq_false_iff.mpr c8
  subst c8
  replace H := N_ H
  obtain rfl := OI_ H
  go_enter Try.func99, Try.ntmps99
  go_wp2_with (first | ((with_reducible refine qAb (N := 4) rfl ?_); refine qAc ?hg (N := 4) ?hd (cs := #[.slice A0_0 l0_0.length c0_0]) (t := 29) ?hr ?_; (case hd => rfl); (case hg => rfl); (case hr => first | (go_simp; done) | (go_simp; rfl)); intro gb101 hg w14 hbox hb; have BK101 := Zz.mk (hbox); have GW101 := Zz.mk ((by rw [hg]; exact (bS_ (B_ HB.out)) : w.heap.size ≤ gb101)); have GE101 := GW101; replace HB := Zz.mk (bT_ (B_ HB.out) hb); clear hb hbox hg; obtain ⟨hcz15_0, hfz15_0⟩ := Z1f_ BK101.out) | ((with_reducible refine gC_ (f := 92) rfl ?_); refine GL_ (some 13) rfl rfl Try.func92 #[.agg #[.slice A0_0 l0_0.length c0_0], .int .i64 a1, .int .i64 a2] rfl (h := ?_); (with_reducible refine (z92.calls k _ _ l0_0 a1 a2 t102 _ ?side1 ?side2 A5.out).mono ?_); (case side1 => exact KC_ (Kd.C_below HR0_0.out HB.out)); (case side2 => exact HC0_0.out); rintro e w16 ⟨rfl, hb⟩; refine ⟨_, rfl, ?_⟩; replace BK101 := Zz.mk (bB_ (g := gb101) (o := .cells #[.slice A0_0 l0_0.length c0_0] 29 (0, 0)) (KB_ BK101.out) hb); replace HB := Zz.mk (bT_ (B1_ HB.out GE101.out) hb); (try clear hb); (try clear hb2); (try clear hk); (try clear hi); obtain ⟨hcz17_0, hfz17_0⟩ := Z1f_ BK101.out) | ((with_reducible refine gC_ (f := 142) rfl ?_); refine GL_ (some 21) rfl rfl Try.func142 #[.agg #[.slice A0_0 l0_0.length c0_0], .int .i64 a1, .int .i64 a2, .slice A3 l3.length c3] rfl (h := ?_); (with_reducible refine (z142.calls k _ _ l0_0 a1 a2 _ _ l3 false _ ?side1 ?side2 ?side3 ?side4 A7.out).mono ?_); (case side1 => exact KC_ (Kd.C_below HR0_0.out HB.out)); (case side2 => exact HC0_0.out); (case side3 => exact KC_ (Kd.C_below HR3.out HB.out)); (case side4 => exact HC3.out); rintro e w18 ⟨rfl, hb⟩; refine ⟨_, rfl, ?_⟩; replace BK101 := Zz.mk (bB_ (g := gb101) (o := .cells #[.slice A0_0 l0_0.length c0_0] 29 (0, 0)) (KB_ BK101.out) hb); replace HB := Zz.mk (bT_ (B1_ HB.out GE101.out) hb); (try clear hb); (try clear hb2); (try clear hk); (try clear hi)))
  go_ret
  exact ⟨F_, B1_ HB.out GE101.out⟩
 rw [if_neg c6] at H
 have c6b0 : (t102 == 0) = false := beq_eq_false_iff_ne.mpr c6
 have c6b1 : (t102 != 0) = true := bne_iff_ne.mpr c6
 obtain rfl := OI_ H
 go_enter Try.func99, Try.ntmps99
 go_wp2_with (first | ((with_reducible refine qAb (N := 4) rfl ?_); refine qAc ?hg (N := 4) ?hd (cs := #[.slice A0_0 l0_0.length c0_0]) (t := 29) ?hr ?_; (case hd => rfl); (case hg => rfl); (case hr => first | (go_simp; done) | (go_simp; rfl)); intro gb101 hg w19 hbox hb; have BK101 := Zz.mk (hbox); have GW101 := Zz.mk ((by rw [hg]; exact (bS_ (B_ HB.out)) : w.heap.size ≤ gb101)); have GE101 := GW101; replace HB := Zz.mk (bT_ (B_ HB.out) hb); clear hb hbox hg; obtain ⟨hcz20_0, hfz20_0⟩ := Z1f_ BK101.out) | ((with_reducible refine gC_ (f := 92) rfl ?_); refine GL_ (some 13) rfl rfl Try.func92 #[.agg #[.slice A0_0 l0_0.length c0_0], .int .i64 a1, .int .i64 a2] rfl (h := ?_); (with_reducible refine (z92.calls k _ _ l0_0 a1 a2 t102 _ ?side1 ?side2 A5.out).mono ?_); (case side1 => exact KC_ (Kd.C_below HR0_0.out HB.out)); (case side2 => exact HC0_0.out); rintro e w21 ⟨rfl, hb⟩; refine ⟨_, rfl, ?_⟩; replace BK101 := Zz.mk (bB_ (g := gb101) (o := .cells #[.slice A0_0 l0_0.length c0_0] 29 (0, 0)) (KB_ BK101.out) hb); replace HB := Zz.mk (bT_ (B1_ HB.out GE101.out) hb); (try clear hb); (try clear hb2); (try clear hk); (try clear hi)))
 go_ret
 exact ⟨F_, B1_ HB.out GE101.out⟩
def z140.l0 : Nat → List Int → Int → Int → Int → Option (Bool)
 | 0, _, _, _, _ => none
 | k + 1, x0, x1, x2, x7 => if x7 < (x0.length : Int) then (if 0 ≤ x7 then ((z79.f (rd x0 x7) 0 (wrap64 (x2 - 1))).bind fun t102 => (if t102 = true then (z140.l0 k x0 x1 x2 (wrap64 (x7 + 1))) else (some false))) else (none)) else (some ((x0.length : Int) == x1))
def z140.f (k : Nat) (l0 : List Int) (a1 : Int) (a2 : Int) : Option (Bool) := z140.l0 k l0 a1 a2 0
theorem z140.calls (k : Nat) (A0 : Option Addr) (c0 : Nat) (l0 : List Int) (a1 : Int) (a2 : Int) (r : Bool) (w : World) (hr0 : Kd.C (Kd.int .i64) w A0 l0.length l0) (hc0 : l0.length ≤ c0) (h : z140.f k l0 a1 a2 = some r) :
  Calls Try.prog 140 #[.slice A0 l0.length c0, .int .i64 a1, .int .i64 a2] w fun e w' => e = .returned (.bool r) ∧ Dz w w' := by
 have HR0 := Zz.mk hr0
 have HC0 := Zz.mk hc0
 clear hr0 hc0
 have H : (z140.l0 k l0 a1 a2 0) = some r := h
 clear h
 have H' := Zz.mk H
 clear H
 go_enter Try.func140, Try.ntmps140
 go_wp2
 go_loopg [7] k (fun kq v7 w' => ∃ (x7_1 : Int), v7 = .int .i64 x7_1 ∧ Zz (z140.l0 kq l0 a1 a2 x7_1 = some r) ∧ Zz (kq ≤ k) ∧ Dz w w')
 case atStart => exact ⟨(0), E_, H', ⟨Nat.le_refl _⟩, by repeat (first | exact Dz.refl _ | apply Dz.step)⟩
 case round =>
  clear H'
  obtain ⟨x7_1, rfl, HA, HK1, ⟨m1, rfl⟩⟩ := hrel
  cases gk with
  | zero => exact absurd HA.out (by simp [z140.l0])
  | succ k1 =>
   have H := HA.out
   clear HA
   simp only [z140.l0] at H
   by_cases c4 : x7_1 < (l0.length : Int)
   ·rw [if_pos c4] at H
    have c4b0 : decide (x7_1 < (l0.length : Int)) = true := decide_eq_true c4
    clear c4
    have c5b0 := O3_ H
    replace H := O2_ H
    replace H := OZ_ H
    obtain ⟨t102, A6, H⟩ := H
    by_cases c7 : t102 = true
    ·subst c7
     replace H := T_ H
     have H' := Zz.mk H
     clear H
     have p101 : 0 ≤ (x7_1 : Int) := D_
     have q101 : x7_1 < (l0.length : Int) := D_
     obtain ⟨ad101, e101, hx101_0⟩ := Kd.at_int HR0.out x7_1 p101 q101
     cases e101
     replace p101 := eq_true p101
     replace q101 := eq_true q101
     go_wp2_with (first | ((with_reducible refine gC_ (f := 79) rfl ?_); refine GL_ (some 20) rfl rfl Try.func79 #[.int .i64 (rd l0 x7_1), .int .i64 0, .int .i64 (wrap64 (a2 - 1))] rfl (h := ?_); (with_reducible refine (z79.calls (rd l0 x7_1) 0 (wrap64 (a2 - 1)) true _ A6.out).mono ?_); rintro e w' ⟨rfl, ⟨nd, rfl⟩⟩; refine ⟨_, rfl, ?_⟩))
     go_roundg k1
     case measure => exact Q1_ HK1
     case rel => exact ⟨(wrap64 (x7_1 + 1)), E_, H', ⟨Q1_ HK1⟩, by repeat (first | exact Dz.refl _ | apply Dz.step)⟩
    replace c7 := Bool.eq_false_iff.mpr c7
    subst c7
    replace H := N_ H
    obtain rfl := OI_ H
    have p101 : 0 ≤ (x7_1 : Int) := D_
    have q101 : x7_1 < (l0.length : Int) := D_
    obtain ⟨ad101, e101, hx101_0⟩ := Kd.at_int HR0.out x7_1 p101 q101
    cases e101
    replace p101 := eq_true p101
    replace q101 := eq_true q101
    go_wp2_with (first | ((with_reducible refine gC_ (f := 79) rfl ?_); refine GL_ (some 20) rfl rfl Try.func79 #[.int .i64 (rd l0 x7_1), .int .i64 0, .int .i64 (wrap64 (a2 - 1))] rfl (h := ?_); (with_reducible refine (z79.calls (rd l0 x7_1) 0 (wrap64 (a2 - 1)) false _ A6.out).mono ?_); rintro e w' ⟨rfl, ⟨nd, rfl⟩⟩; refine ⟨_, rfl, ?_⟩))
    go_ret
    exact ⟨by first | rfl | (simp; done) | (simp [*]; done), by repeat (first | exact Dz.refl _ | apply Dz.step)⟩
   rw [if_neg c4] at H
   have c4b0 : decide (x7_1 < (l0.length : Int)) = false := decide_eq_false c4
   clear c4
   obtain rfl := OI_ H
   go_wp2
   go_ret
   exact ⟨by first | rfl | (simp; done) | (simp [*]; done), by repeat (first | exact Dz.refl _ | apply Dz.step)⟩
def z97.f (k : Nat) (l0_0 : List (List Int)) (a1 : Int) (a2 : Int) (l3 : List Int) : Option (Int) := (z88.f k l0_0 a1 a2).bind fun t101 => (if t101 = 0 then ((z89.f k l0_0 a1).bind fun t102 => ((z140.f k l3 (t102.length : Int) a2).bind fun t105 => (if t105 = true then (some 0) else (some 7)))) else (some t101))
theorem z97.calls (k : Nat) (gp0 : Nat) (A0_0 : Option Addr) (c0_0 : Nat) (l0_0 : List (List Int)) (a1 : Int) (a2 : Int) (A3 : Option Addr) (c3 : Nat) (l3 : List Int) (r : Int) (w : World) (hbp0 : w.heap[gp0]? = some (.cells #[.slice A0_0 l0_0.length c0_0] 29 (0, 0))) (hr0_0 : Kd.C (Kd.slice 2 (Kd.int .i64)) w A0_0 l0_0.length l0_0) (hc0_0 : l0_0.length ≤ c0_0) (hr3 : Kd.C (Kd.int .i64) w A3 l3.length l3) (hc3 : l3.length ≤ c3) (h : z97.f k l0_0 a1 a2 l3 = some r) :
  Calls Try.prog 97 #[.pointer (some ⟨gp0, 0, none⟩), .int .i64 a1, .int .i64 a2, .slice A3 l3.length c3] w fun e w' => e = .returned (.int .i64 r) ∧ Below w.heap.size w w' := by
 have HR0_0 := Zz.mk hr0_0
 have HC0_0 := Zz.mk hc0_0
 clear hr0_0 hc0_0
 have HR3 := Zz.mk hr3
 have HC3 := Zz.mk hc3
 clear hr3 hc3
 have BK50 := Zz.mk hbp0
 clear hbp0
 have HB := Zz.mk (Below.refl w.heap.size w)
 have H : ((z88.f k l0_0 a1 a2).bind fun t101 => (if t101 = 0 then ((z89.f k l0_0 a1).bind fun t102 => ((z140.f k l3 (t102.length : Int) a2).bind fun t105 => (if t105 = true then (some 0) else (some 7)))) else (some t101))) = some r := h
 clear h
 replace H := OZ_ H
 obtain ⟨t101, A5, H⟩ := H
 by_cases c6 : t101 = 0
 ·rw [if_pos c6] at H
  have c6b0 : (t101 == 0) = true := beq_iff_eq.mpr c6
  have c6b1 : (t101 != 0) = false := bne_eq_false_iff_eq.mpr c6
  clear c6
  replace H := OZ_ H
  obtain ⟨t102, A7, H⟩ := H
  replace H := OZ_ H
  obtain ⟨t105, A8, H⟩ := H
  by_cases c9 : t105 = true
  ·subst c9
   replace H := T_ H
   obtain rfl := OI_ H
   go_enter Try.func97, Try.ntmps97
   go_wp2_with (first | ((with_reducible refine gC_ (f := 88) rfl ?_); refine GL_ (some 13) rfl rfl Try.func88 #[.pointer (some ⟨gp0, 0, none⟩), .int .i64 a1, .int .i64 a2] rfl (h := ?_); (with_reducible refine (z88.calls k gp0 A0_0 c0_0 l0_0 a1 a2 t101 _ ?side1 ?side2 ?side3 A5.out).mono ?_); (case side1 => refine BW_ ?_; exact BK50.out); (case side2 => exact KC_ HR0_0.out); (case side3 => exact HC0_0.out); rintro e w10 ⟨rfl, hb⟩; refine ⟨_, rfl, ?_⟩; replace BK50 := Zz.mk (bB_ (g := gp0) (o := .cells #[.slice A0_0 l0_0.length c0_0] 29 (0, 0)) (KB_ BK50.out) hb); replace HB := Zz.mk (bT_ (B_ HB.out) hb); (try clear hb); (try clear hb2); (try clear hk); (try clear hi)) | ((with_reducible refine gC_ (f := 89) rfl ?_); refine GL_ (some 20) rfl rfl Try.func89 #[.pointer (some ⟨gp0, 0, none⟩), .int .i64 a1] rfl (h := ?_); (with_reducible refine (z89.calls k gp0 A0_0 c0_0 l0_0 a1 t102 _ ?side1 ?side2 ?side3 A7.out).mono ?_); (case side1 => refine BW_ ?_; exact BK50.out); (case side2 => exact KC_ (Kd.C_below HR0_0.out HB.out)); (case side3 => exact HC0_0.out); rintro e w11 ⟨v103, rfl, ho0, hb⟩; refine ⟨_, rfl, ?_⟩; have HO104 := Zz.mk (Kd.R_lower ho0 (bS_ (B_ HB.out))); replace BK50 := Zz.mk (bB_ (g := gp0) (o := .cells #[.slice A0_0 l0_0.length c0_0] 29 (0, 0)) (KB_ BK50.out) hb); replace HB := Zz.mk (bT_ (B_ HB.out) hb); (try clear hb); (try clear hb2); (try clear hk); (try clear hi); (try clear ho0); obtain ⟨Ao12, co12, eo12⟩ := Kd.R_slice HO104.out; subst eo12) | ((with_reducible refine gC_ (f := 140) rfl ?_); refine GL_ (some 23) rfl rfl Try.func140 #[.slice A3 l3.length c3, .int .i64 (t102.length : Int), .int .i64 a2] rfl (h := ?_); (with_reducible refine (z140.calls k _ _ l3 (t102.length : Int) a2 true _ ?side1 ?side2 A8.out).mono ?_); (case side1 => exact KC_ (Kd.C_below HR3.out HB.out)); (case side2 => exact HC3.out); rintro e w' ⟨rfl, ⟨nd, rfl⟩⟩; refine ⟨_, rfl, ?_⟩))
   go_ret
   exact ⟨F_, B_ HB.out⟩
  replace c9 := Bool.eq_false_iff.mpr c9
  subst c9
  replace H := N_ H
  obtain rfl := OI_ H
  go_enter Try.func97, Try.ntmps97
  go_wp2_with (first | ((with_reducible refine gC_ (f := 88) rfl ?_); refine GL_ (some 13) rfl rfl Try.func88 #[.pointer (some ⟨gp0, 0, none⟩), .int .i64 a1, .int .i64 a2] rfl (h := ?_); (with_reducible refine (z88.calls k gp0 A0_0 c0_0 l0_0 a1 a2 t101 _ ?side1 ?side2 ?side3 A5.out).mono ?_); (case side1 => refine BW_ ?_; exact BK50.out); (case side2 => exact KC_ HR0_0.out); (case side3 => exact HC0_0.out); rintro e w13 ⟨rfl, hb⟩; refine ⟨_, rfl, ?_⟩; replace BK50 := Zz.mk (bB_ (g := gp0) (o := .cells #[.slice A0_0 l0_0.length c0_0] 29 (0, 0)) (KB_ BK50.out) hb); replace HB := Zz.mk (bT_ (B_ HB.out) hb); (try clear hb); (try clear hb2); (try clear hk); (try clear hi)) | ((with_reducible refine gC_ (f := 89) rfl ?_); refine GL_ (some 20) rfl rfl Try.func89 #[.pointer (some ⟨gp0, 0, none⟩), .int .i64 a1] rfl (h := ?_); (with_reducible refine (z89.calls k gp0 A0_0 c0_0 l0_0 a1 t102 _ ?side1 ?side2 ?side3 A7.out).mono ?_); (case side1 => refine BW_ ?_; exact BK50.out); (case side2 => exact KC_ (Kd.C_below HR0_0.out HB.out)); (case side3 => exact HC0_0.out); rintro e w14 ⟨v103, rfl, ho0, hb⟩; refine ⟨_, rfl, ?_⟩; have HO104 := Zz.mk (Kd.R_lower ho0 (bS_ (B_ HB.out))); replace BK50 := Zz.mk (bB_ (g := gp0) (o := .cells #[.slice A0_0 l0_0.length c0_0] 29 (0, 0)) (KB_ BK50.out) hb); replace HB := Zz.mk (bT_ (B_ HB.out) hb); (try clear hb); (try clear hb2); (try clear hk); (try clear hi); (try clear ho0); obtain ⟨Ao15, co15, eo15⟩ := Kd.R_slice HO104.out; subst eo15) | ((with_reducible refine gC_ (f := 140) rfl ?_); refine GL_ (some 23) rfl rfl Try.func140 #[.slice A3 l3.length c3, .int .i64 (t102.length : Int), .int .i64 a2] rfl (h := ?_); (with_reducible refine (z140.calls k _ _ l3 (t102.length : Int) a2 false _ ?side1 ?side2 A8.out).mono ?_); (case side1 => exact KC_ (Kd.C_below HR3.out HB.out)); (case side2 => exact HC3.out); rintro e w' ⟨rfl, ⟨nd, rfl⟩⟩; refine ⟨_, rfl, ?_⟩))
  go_ret
  exact ⟨F_, B_ HB.out⟩
 rw [if_neg c6] at H
 have c6b0 : (t101 == 0) = false := beq_eq_false_iff_ne.mpr c6
 have c6b1 : (t101 != 0) = true := bne_iff_ne.mpr c6
 obtain rfl := OI_ H
 go_enter Try.func97, Try.ntmps97
 go_wp2_with (first | ((with_reducible refine gC_ (f := 88) rfl ?_); refine GL_ (some 13) rfl rfl Try.func88 #[.pointer (some ⟨gp0, 0, none⟩), .int .i64 a1, .int .i64 a2] rfl (h := ?_); (with_reducible refine (z88.calls k gp0 A0_0 c0_0 l0_0 a1 a2 t101 _ ?side1 ?side2 ?side3 A5.out).mono ?_); (case side1 => refine BW_ ?_; exact BK50.out); (case side2 => exact KC_ HR0_0.out); (case side3 => exact HC0_0.out); rintro e w16 ⟨rfl, hb⟩; refine ⟨_, rfl, ?_⟩; replace BK50 := Zz.mk (bB_ (g := gp0) (o := .cells #[.slice A0_0 l0_0.length c0_0] 29 (0, 0)) (KB_ BK50.out) hb); replace HB := Zz.mk (bT_ (B_ HB.out) hb); (try clear hb); (try clear hb2); (try clear hk); (try clear hi)))
 go_ret
 exact ⟨F_, B_ HB.out⟩
end Go.Proofs.Ytipkciildhghiaa.B
