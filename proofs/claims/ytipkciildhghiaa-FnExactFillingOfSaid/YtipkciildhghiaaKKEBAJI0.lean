/- Printed proofs of functions of the program and of the reference, by a program of this work over the kit's printer. -/
import Derived.Test.YtipkciildhghiaaKCHHHHI0
import Derived.Test.YtipkciildhghiaaKHGNPLP0
import Derived.Test.YtipkciildhghiaaKW0
set_option maxHeartbeats 8000000
set_option maxRecDepth 100000
namespace Go.Proofs.Ytipkciildhghiaa.B
open Go.RowKit Go.Proofs.YtipkciildhghiaaW.PrintWords Go.Proofs.YtipkciildhghiaaW.PrintLast Go.Proofs.YtipkciildhghiaaW.PrintMore
attribute [local go_sem] qAi qAg qAl qAk qAe qAd qAh qAf
set_option linter.unusedVariables false
set_option linter.unusedSimpArgs false
def z94.l0 : Nat → List Int → Int → Int → Int → Option (Int)
 | 0, _, _, _, _ => none
 | k + 1, x0, x1, x7, x8 => if x8 < x7 then (if 0 ≤ x8 then (if x8 < (x0.length : Int) then (if x1 = (rd x0 x8) then (some x8) else (z94.l0 k x0 x1 x7 (wrap64 (x8 + 1)))) else (none)) else (none)) else (some (-1))
def z94.f (k : Nat) (l0 : List Int) (a1 : Int) : Option (Int) := z94.l0 k l0 a1 (l0.length : Int) 0
theorem z94.calls (k : Nat) (A0 : Option Addr) (c0 : Nat) (l0 : List Int) (a1 : Int) (r : Int) (w : World) (hr0 : Kd.C (Kd.int .i64) w A0 l0.length l0) (hc0 : l0.length ≤ c0) (h : z94.f k l0 a1 = some r) :
  Calls Try.prog 94 #[.slice A0 l0.length c0, .int .i64 a1] w fun e w' => e = .returned (.int .i64 r) ∧ Dz w w' := by
 have HR0 := Zz.mk hr0
 have HC0 := Zz.mk hc0
 clear hr0 hc0
 have H : (z94.l0 k l0 a1 (l0.length : Int) 0) = some r := h
 clear h
 have H' := Zz.mk H
 clear H
 go_enter Try.func94, Try.ntmps94
 go_wp2
 go_loopg [8] k (fun kq v8 w' => ∃ (x8_1 : Int), v8 = .int .i64 x8_1 ∧ Zz (z94.l0 kq l0 a1 (l0.length : Int) x8_1 = some r) ∧ Zz (kq ≤ k) ∧ Dz w w')
 case atStart => exact ⟨(0), E_, H', ⟨Nat.le_refl _⟩, by repeat (first | exact Dz.refl _ | apply Dz.step)⟩
 case round =>
  clear H'
  obtain ⟨x8_1, rfl, HA, HK1, ⟨m1, rfl⟩⟩ := hrel
  cases gk with
  | zero => exact absurd HA.out (by simp [z94.l0])
  | succ k1 =>
   have H := HA.out
   clear HA
   simp only [z94.l0] at H
   by_cases c3 : x8_1 < (l0.length : Int)
   ·rw [if_pos c3] at H
    have c3b0 : decide (x8_1 < (l0.length : Int)) = true := decide_eq_true c3
    clear c3
    have c4b0 := O3_ H
    replace H := O2_ H
    have c5b0 := O3_ H
    replace H := O2_ H
    by_cases c6 : a1 = (rd l0 x8_1)
    ·rw [if_pos c6] at H
     have c6b0 : (a1 == (rd l0 x8_1)) = true := beq_iff_eq.mpr c6
     have c6b1 : (a1 != (rd l0 x8_1)) = false := bne_eq_false_iff_eq.mpr c6
     clear c6
     obtain rfl := OI_ H
     have p101 : 0 ≤ (x8_1 : Int) := D_
     have q101 : x8_1 < (l0.length : Int) := D_
     obtain ⟨ad101, e101, hx101_0⟩ := Kd.at_int HR0.out x8_1 p101 q101
     cases e101
     replace p101 := eq_true p101
     replace q101 := eq_true q101
     go_wp2
     go_ret
     exact ⟨by first | rfl | (simp; done) | (simp [*]; done), by repeat (first | exact Dz.refl _ | apply Dz.step)⟩
    rw [if_neg c6] at H
    have c6b0 : (a1 == (rd l0 x8_1)) = false := beq_eq_false_iff_ne.mpr c6
    have c6b1 : (a1 != (rd l0 x8_1)) = true := bne_iff_ne.mpr c6
    have H' := Zz.mk H
    clear H
    have p101 : 0 ≤ (x8_1 : Int) := D_
    have q101 : x8_1 < (l0.length : Int) := D_
    obtain ⟨ad101, e101, hx101_0⟩ := Kd.at_int HR0.out x8_1 p101 q101
    cases e101
    replace p101 := eq_true p101
    replace q101 := eq_true q101
    go_wp2
    go_roundg k1
    case measure => exact Q1_ HK1
    case rel => exact ⟨(wrap64 (x8_1 + 1)), E_, H', ⟨Q1_ HK1⟩, by repeat (first | exact Dz.refl _ | apply Dz.step)⟩
   rw [if_neg c3] at H
   have c3b0 : decide (x8_1 < (l0.length : Int)) = false := decide_eq_false c3
   clear c3
   obtain rfl := OI_ H
   go_wp2
   go_ret
   exact ⟨by first | rfl | (simp; done) | (simp [*]; done), by repeat (first | exact Dz.refl _ | apply Dz.step)⟩
def z62.f (a0 : Int) : Option (Bool) := (z113.f a0 0 3).bind fun t101 => (some t101)
theorem z62.calls (a0 : Int) (r : Bool) (w : World) (h : z62.f a0 = some r) :
  Calls Try.prog 62 #[.int .i64 a0] w fun e w' => e = .returned (.bool r) ∧ Dz w w' := by
 have H : ((z113.f a0 0 3).bind fun t101 => (some t101)) = some r := h
 clear h
 replace H := OZ_ H
 obtain ⟨t101, A2, H⟩ := H
 obtain rfl := OI_ H
 go_enter Try.func62, Try.ntmps62
 go_wp2_with (first | ((with_reducible refine gC_ (f := 113) rfl ?_); refine GL_ (some 4) rfl rfl Try.func113 #[.int .i64 a0, .int .i64 0, .int .i64 3] rfl (h := ?_); (with_reducible refine (z113.calls a0 0 3 t101 _ A2.out).mono ?_); rintro e w' ⟨rfl, ⟨nd, rfl⟩⟩; refine ⟨_, rfl, ?_⟩))
 go_ret
 exact ⟨by first | rfl | (simp; done) | (simp [*]; done), by repeat (first | exact Dz.refl _ | apply Dz.step)⟩
def z133.l0 : Nat → Int → Int → Option (Bool)
 | 0, _, _ => none
 | k + 1, x0, x3 => if (wrap64 (x3 * x3)) ≤ x0 then (if x3 = 0 then (none) else (if (Int.tmod x0 x3) = 0 then (some false) else (z133.l0 k x0 (wrap64 (x3 + 1))))) else (some true)
def z133.f (k : Nat) (a0 : Int) : Option (Bool) := (z113.f a0 2 251).bind fun t101 => (if t101 = true then (z133.l0 k a0 2) else (some false))
theorem z133.calls (k : Nat) (a0 : Int) (r : Bool) (w : World) (h : z133.f k a0 = some r) :
  Calls Try.prog 133 #[.int .i64 a0] w fun e w' => e = .returned (.bool r) ∧ Dz w w' := by
 have H : ((z113.f a0 2 251).bind fun t101 => (if t101 = true then (z133.l0 k a0 2) else (some false))) = some r := h
 clear h
 replace H := OZ_ H
 obtain ⟨t101, A2, H⟩ := H
 by_cases c3 : t101 = true
 ·subst c3
  replace H := T_ H
  have H' := Zz.mk H
  clear H
  go_enter Try.func133, Try.ntmps133
  go_wp2_with (first | ((with_reducible refine gC_ (f := 113) rfl ?_); refine GL_ (some 5) rfl rfl Try.func113 #[.int .i64 a0, .int .i64 2, .int .i64 251] rfl (h := ?_); (with_reducible refine (z113.calls a0 2 251 true _ A2.out).mono ?_); rintro e w' ⟨rfl, ⟨nd, rfl⟩⟩; refine ⟨_, rfl, ?_⟩))
  go_loopg [3] k (fun kq v3 w' => ∃ (x3_1 : Int), v3 = .int .i64 x3_1 ∧ Zz (z133.l0 kq a0 x3_1 = some r) ∧ Zz (kq ≤ k) ∧ Dz w w')
  case atStart => exact ⟨(2), E_, H', ⟨Nat.le_refl _⟩, by repeat (first | exact Dz.refl _ | apply Dz.step)⟩
  case round =>
   clear H'
   (try clear c3)
   obtain ⟨x3_1, rfl, HA, HK1, ⟨m1, rfl⟩⟩ := hrel
   cases gk with
   | zero => exact absurd HA.out (by simp [z133.l0])
   | succ k1 =>
    have H := HA.out
    clear HA
    simp only [z133.l0] at H
    by_cases c4 : (wrap64 (x3_1 * x3_1)) ≤ a0
    ·rw [if_pos c4] at H
     have c4b0 : decide ((wrap64 (x3_1 * x3_1)) ≤ a0) = true := decide_eq_true c4
     clear c4
     by_cases c5 : x3_1 = 0
     ·rw [if_pos c5] at H
      exact X_ H
     rw [if_neg c5] at H
     have c5b0 : (x3_1 == 0) = false := beq_eq_false_iff_ne.mpr c5
     have c5b1 : (x3_1 != 0) = true := bne_iff_ne.mpr c5
     by_cases c6 : (Int.tmod a0 x3_1) = 0
     ·rw [if_pos c6] at H
      have c6b0 : ((Int.tmod a0 x3_1) == 0) = true := beq_iff_eq.mpr c6
      have c6b1 : ((Int.tmod a0 x3_1) != 0) = false := bne_eq_false_iff_eq.mpr c6
      clear c6
      obtain rfl := OI_ H
      go_wp2
      go_ret
      exact ⟨by first | rfl | (simp; done) | (simp [*]; done), by repeat (first | exact Dz.refl _ | apply Dz.step)⟩
     rw [if_neg c6] at H
     have c6b0 : ((Int.tmod a0 x3_1) == 0) = false := beq_eq_false_iff_ne.mpr c6
     have c6b1 : ((Int.tmod a0 x3_1) != 0) = true := bne_iff_ne.mpr c6
     have H' := Zz.mk H
     clear H
     go_wp2
     go_roundg k1
     case measure => exact Q1_ HK1
     case rel => exact ⟨(wrap64 (x3_1 + 1)), E_, H', ⟨Q1_ HK1⟩, by repeat (first | exact Dz.refl _ | apply Dz.step)⟩
    rw [if_neg c4] at H
    have c4b0 : decide ((wrap64 (x3_1 * x3_1)) ≤ a0) = false := decide_eq_false c4
    clear c4
    obtain rfl := OI_ H
    go_wp2
    go_ret
    exact ⟨by first | rfl | (simp; done) | (simp [*]; done), by repeat (first | exact Dz.refl _ | apply Dz.step)⟩
 replace c3 := Bool.eq_false_iff.mpr c3
 subst c3
 replace H := N_ H
 obtain rfl := OI_ H
 go_enter Try.func133, Try.ntmps133
 go_wp2_with (first | ((with_reducible refine gC_ (f := 113) rfl ?_); refine GL_ (some 5) rfl rfl Try.func113 #[.int .i64 a0, .int .i64 2, .int .i64 251] rfl (h := ?_); (with_reducible refine (z113.calls a0 2 251 false _ A2.out).mono ?_); rintro e w' ⟨rfl, ⟨nd, rfl⟩⟩; refine ⟨_, rfl, ?_⟩))
 go_ret
 exact ⟨by first | rfl | (simp; done) | (simp [*]; done), by repeat (first | exact Dz.refl _ | apply Dz.step)⟩
mutual
def z92.j0 : Nat → Int → Bool → List (List Int) → Option (Int)
 | 0, _, _, _ => none
 | k + 1, x1, x8, x102000 => if x8 = true then (some 1) else ((z62.f x1).bind fun t104 => (if t104 = true then (z92.l0 k x1 (wrap64 (x1 - 1)) x102000) else (some 2)))
def z92.l0 : Nat → Int → Int → List (List Int) → Option (Int)
 | 0, _, _, _ => none
 | k + 1, x1, x7, x102000 => if x7 ≤ (wrap64 (x1 + 1)) then ((z93.f k x102000 x7).bind fun t105 => (if (t105.length : Int) > 32 then (some 5) else (z92.l0 k x1 (wrap64 (x7 + 1)) x102000))) else (some 0)
end
def z92.f (k : Nat) (l0_0 : List (List Int)) (a1 : Int) (a2 : Int) : Option (Int) := (z58.f k l0_0).bind fun t102 => (if t102 = true then ((z133.f k a2).bind fun t103 => (z92.j0 k a1 (!t103) l0_0)) else (z92.j0 k a1 true l0_0))
theorem z92.calls (k : Nat) (A0_0 : Option Addr) (c0_0 : Nat) (l0_0 : List (List Int)) (a1 : Int) (a2 : Int) (r : Int) (w : World) (hr0_0 : Kd.C (Kd.slice 2 (Kd.int .i64)) w A0_0 l0_0.length l0_0) (hc0_0 : l0_0.length ≤ c0_0) (h : z92.f k l0_0 a1 a2 = some r) :
  Calls Try.prog 92 #[.agg #[.slice A0_0 l0_0.length c0_0], .int .i64 a1, .int .i64 a2] w fun e w' => e = .returned (.int .i64 r) ∧ Below w.heap.size w w' := by
 have hu29 := Try.underlying29
 have HR0_0 := Zz.mk hr0_0
 have HC0_0 := Zz.mk hc0_0
 clear hr0_0 hc0_0
 have HB := Zz.mk (Below.refl w.heap.size w)
 have H : ((z58.f k l0_0).bind fun t102 => (if t102 = true then ((z133.f k a2).bind fun t103 => (z92.j0 k a1 (!t103) l0_0)) else (z92.j0 k a1 true l0_0))) = some r := h
 clear h
 have HC4 := Zz.mk H
 clear H
 go_enter Try.func92, Try.ntmps92
 go_upto_region 1 with (first | ((with_reducible refine qAb (N := 3) rfl ?_); refine qAc ?hg (N := 3) ?hd (cs := #[.slice A0_0 l0_0.length c0_0]) (t := 29) ?hr ?_; (case hd => rfl); (case hg => rfl); (case hr => first | (go_simp; done) | (go_simp; rfl)); intro gb101 hg w5 hbox hb; have BK101 := Zz.mk (hbox); have GW101 := Zz.mk ((by rw [hg]; exact (bS_ (B_ HB.out)) : w.heap.size ≤ gb101)); have GE101 := GW101; replace HB := Zz.mk (bT_ (B_ HB.out) hb); clear hb hbox hg))
 (try simp only [Act.put, List.setIfInBounds_toArray, List.set_cons_zero, List.set_cons_succ])
 go_cut [8] (fun v8 wc => ∃ (kq : Nat) (x8_3 : Bool), v8 = .bool x8_3 ∧ Zz (z92.j0 kq a1 x8_3 l0_0 = some r) ∧ Zz (kq ≤ k) ∧ Zz (wc.heap[gb101]? = some (.cells #[(.slice A0_0 l0_0.length c0_0)] 29 (0, 0))) ∧ Zz (Below w.heap.size w wc))
 case first =>
  have H := HC4.out
  clear HC4
  replace H := OZ_ H
  obtain ⟨t102, A6, H⟩ := H
  by_cases c7 : t102 = true
  ·subst c7
   replace H := T_ H
   replace H := OZ_ H
   obtain ⟨t103, A8, H⟩ := H
   have H' := Zz.mk H
   clear H
   obtain ⟨hcz9_0, hfz9_0⟩ := Z1f_ BK101.out
   go_wp2_with (first | ((with_reducible refine gC_ (f := 58) rfl ?_); refine GL_ (some 10) rfl rfl Try.func58 #[.agg #[.slice A0_0 l0_0.length c0_0]] rfl (h := ?_); (with_reducible refine (z58.calls k _ _ l0_0 true _ ?side1 ?side2 A6.out).mono ?_); (case side1 => exact KC_ (Kd.C_below HR0_0.out HB.out)); (case side2 => exact HC0_0.out); rintro e w10 ⟨rfl, hb⟩; refine ⟨_, rfl, ?_⟩; replace BK101 := Zz.mk (bB_ (g := gb101) (o := .cells #[.slice A0_0 l0_0.length c0_0] 29 (0, 0)) (KB_ BK101.out) hb); replace HB := Zz.mk (bT_ (B1_ HB.out GE101.out) hb); (try clear hb); (try clear hb2); (try clear hk); (try clear hi)) | (go_at_call 133; (with_reducible refine (z133.calls k a2 t103 _ A8.out).mono ?_); rintro e w' ⟨rfl, ⟨nd, rfl⟩⟩))
   go_meet
   case rel => exact ⟨_, (!t103), E_, H', ⟨by first | omega | exact Nat.le_refl _⟩, ⟨KB_ BK101.out⟩, ⟨B1_ HB.out GE101.out⟩⟩
  replace c7 := Bool.eq_false_iff.mpr c7
  subst c7
  replace H := N_ H
  have H' := Zz.mk H
  clear H
  obtain ⟨hcz11_0, hfz11_0⟩ := Z1f_ BK101.out
  go_wp2_with (first | ((with_reducible refine gC_ (f := 58) rfl ?_); refine GL_ (some 10) rfl rfl Try.func58 #[.agg #[.slice A0_0 l0_0.length c0_0]] rfl (h := ?_); (with_reducible refine (z58.calls k _ _ l0_0 false _ ?side1 ?side2 A6.out).mono ?_); (case side1 => exact KC_ (Kd.C_below HR0_0.out HB.out)); (case side2 => exact HC0_0.out); rintro e w12 ⟨rfl, hb⟩; refine ⟨_, rfl, ?_⟩; replace BK101 := Zz.mk (bB_ (g := gb101) (o := .cells #[.slice A0_0 l0_0.length c0_0] 29 (0, 0)) (KB_ BK101.out) hb); replace HB := Zz.mk (bT_ (B1_ HB.out GE101.out) hb); (try clear hb); (try clear hb2); (try clear hk); (try clear hi)))
  go_meet
  case rel => exact ⟨_, (true), E_, H', ⟨by first | omega | exact Nat.le_refl _⟩, ⟨KB_ BK101.out⟩, ⟨B1_ HB.out GE101.out⟩⟩
 case rest =>
  clear HC4
  obtain ⟨kq, x8_3, rfl, HA, HJ3, BK101, HB⟩ := hcut
  cases kq with
  | zero => exact absurd HA.out (by simp [z92.j0])
  | succ kj3 =>
   have H := HA.out
   clear HA
   simp only [z92.j0] at H
   by_cases c13 : x8_3 = true
   ·subst c13
    replace H := T_ H
    obtain rfl := OI_ H
    go_wp2
    go_ret
    exact ⟨F_, B1_ HB.out GE101.out⟩
   replace c13 := Bool.eq_false_iff.mpr c13
   subst c13
   replace H := N_ H
   replace H := OZ_ H
   obtain ⟨t104, A14, H⟩ := H
   by_cases c15 : t104 = true
   ·subst c15
    replace H := T_ H
    have H' := Zz.mk H
    clear H
    go_wp2_with (first | ((with_reducible refine gC_ (f := 62) rfl ?_); refine GL_ (some 19) rfl rfl Try.func62 #[.int .i64 a1] rfl (h := ?_); (with_reducible refine (z62.calls a1 true _ A14.out).mono ?_); rintro e w' ⟨rfl, ⟨nd, rfl⟩⟩; refine ⟨_, rfl, ?_⟩))
    go_loopg [7] kj3 (fun kq v7 w' => ∃ (x7_2 : Int), v7 = .int .i64 x7_2 ∧ Zz (z92.l0 kq a1 x7_2 l0_0 = some r) ∧ Zz (kq ≤ kj3) ∧ Zz (w'.heap[gb101]? = some (.cells #[(.slice A0_0 l0_0.length c0_0)] 29 (0, 0))) ∧ Zz (Below w.heap.size w w'))
    case atStart => exact ⟨(wrap64 (a1 - 1)), E_, H', ⟨Nat.le_refl _⟩, ⟨KB_ BK101.out⟩, ⟨B1_ HB.out GE101.out⟩⟩
    case round =>
     clear H'
     (try clear c13);(try clear c15)
     obtain ⟨x7_2, rfl, HA, HK2, BK101, HB⟩ := hrel
     cases gk with
     | zero => exact absurd HA.out (by simp [z92.l0])
     | succ k2 =>
      have H := HA.out
      clear HA
      simp only [z92.l0] at H
      by_cases c16 : x7_2 ≤ (wrap64 (a1 + 1))
      ·rw [if_pos c16] at H
       have c16b0 : decide (x7_2 ≤ (wrap64 (a1 + 1))) = true := decide_eq_true c16
       clear c16
       replace H := OZ_ H
       obtain ⟨t105, A17, H⟩ := H
       by_cases c18 : (t105.length : Int) > 32
       ·rw [if_pos c18] at H
        have c18b0 : decide (32 < (t105.length : Int)) = true := decide_eq_true c18
        have c18b1 : decide (32 < t105.length) = true := decide_eq_true (by omega)
        clear c18
        obtain rfl := OI_ H
        obtain ⟨hcz19_0, hfz19_0⟩ := Z1f_ BK101.out
        go_wp2_with (first | ((with_reducible refine gC_ (f := 93) rfl ?_); refine GL_ (some 31) rfl rfl Try.func93 #[.agg #[.slice A0_0 l0_0.length c0_0], .int .i64 x7_2] rfl (h := ?_); (with_reducible refine (z93.calls k2 _ _ l0_0 x7_2 t105 _ ?side1 ?side2 A17.out).mono ?_); (case side1 => exact KC_ (Kd.C_below HR0_0.out HB.out)); (case side2 => exact HC0_0.out); rintro e w20 ⟨v106, rfl, ho0, hb⟩; refine ⟨_, rfl, ?_⟩; have HO107 := Zz.mk (Kd.R_lower ho0 (bS_ (B1_ HB.out GE101.out))); replace BK101 := Zz.mk (bB_ (g := gb101) (o := .cells #[.slice A0_0 l0_0.length c0_0] 29 (0, 0)) (KB_ BK101.out) hb); replace HB := Zz.mk (bT_ (B1_ HB.out GE101.out) hb); (try clear hb); (try clear hb2); (try clear hk); (try clear hi); (try clear ho0); obtain ⟨Ao21, co21, eo21⟩ := Kd.R_slice HO107.out; subst eo21))
        go_ret
        exact ⟨F_, B1_ HB.out GE101.out⟩
       rw [if_neg c18] at H
       have c18b0 : decide (32 < (t105.length : Int)) = false := decide_eq_false c18
       have c18b1 : decide (32 < t105.length) = false := decide_eq_false (by omega)
       clear c18
       have H' := Zz.mk H
       clear H
       obtain ⟨hcz22_0, hfz22_0⟩ := Z1f_ BK101.out
       go_wp2_with (first | ((with_reducible refine gC_ (f := 93) rfl ?_); refine GL_ (some 31) rfl rfl Try.func93 #[.agg #[.slice A0_0 l0_0.length c0_0], .int .i64 x7_2] rfl (h := ?_); (with_reducible refine (z93.calls k2 _ _ l0_0 x7_2 t105 _ ?side1 ?side2 A17.out).mono ?_); (case side1 => exact KC_ (Kd.C_below HR0_0.out HB.out)); (case side2 => exact HC0_0.out); rintro e w23 ⟨v106, rfl, ho0, hb⟩; refine ⟨_, rfl, ?_⟩; have HO107 := Zz.mk (Kd.R_lower ho0 (bS_ (B1_ HB.out GE101.out))); replace BK101 := Zz.mk (bB_ (g := gb101) (o := .cells #[.slice A0_0 l0_0.length c0_0] 29 (0, 0)) (KB_ BK101.out) hb); replace HB := Zz.mk (bT_ (B1_ HB.out GE101.out) hb); (try clear hb); (try clear hb2); (try clear hk); (try clear hi); (try clear ho0); obtain ⟨Ao24, co24, eo24⟩ := Kd.R_slice HO107.out; subst eo24))
       go_roundg k2
       case measure => have := HJ3.out; have := HK2.out; omega
       case rel => exact ⟨(wrap64 (x7_2 + 1)), E_, H', ⟨by have := HJ3.out; have := HK2.out; omega⟩, ⟨KB_ BK101.out⟩, ⟨B1_ HB.out GE101.out⟩⟩
      rw [if_neg c16] at H
      have c16b0 : decide (x7_2 ≤ (wrap64 (a1 + 1))) = false := decide_eq_false c16
      clear c16
      obtain rfl := OI_ H
      go_wp2
      go_ret
      exact ⟨F_, B1_ HB.out GE101.out⟩
   replace c15 := Bool.eq_false_iff.mpr c15
   subst c15
   replace H := N_ H
   obtain rfl := OI_ H
   go_wp2_with (first | ((with_reducible refine gC_ (f := 62) rfl ?_); refine GL_ (some 19) rfl rfl Try.func62 #[.int .i64 a1] rfl (h := ?_); (with_reducible refine (z62.calls a1 false _ A14.out).mono ?_); rintro e w' ⟨rfl, ⟨nd, rfl⟩⟩; refine ⟨_, rfl, ?_⟩))
   go_ret
   exact ⟨F_, B1_ HB.out GE101.out⟩
def z60.f (a0 : Int) : Option (Bool) := (z79.f a0 0 3).bind fun t101 => (some t101)
theorem z60.calls (a0 : Int) (r : Bool) (w : World) (h : z60.f a0 = some r) :
  Calls Try.prog 60 #[.int .i64 a0] w fun e w' => e = .returned (.bool r) ∧ Dz w w' := by
 have H : ((z79.f a0 0 3).bind fun t101 => (some t101)) = some r := h
 clear h
 replace H := OZ_ H
 obtain ⟨t101, A2, H⟩ := H
 obtain rfl := OI_ H
 go_enter Try.func60, Try.ntmps60
 go_wp2_with (first | ((with_reducible refine gC_ (f := 79) rfl ?_); refine GL_ (some 4) rfl rfl Try.func79 #[.int .i64 a0, .int .i64 0, .int .i64 3] rfl (h := ?_); (with_reducible refine (z79.calls a0 0 3 t101 _ A2.out).mono ?_); rintro e w' ⟨rfl, ⟨nd, rfl⟩⟩; refine ⟨_, rfl, ?_⟩))
 go_ret
 exact ⟨by first | rfl | (simp; done) | (simp [*]; done), by repeat (first | exact Dz.refl _ | apply Dz.step)⟩
def z171.l0 : Nat → Int → Int → Option (Bool)
 | 0, _, _ => none
 | k + 1, x0, x3 => if (wrap64 (x3 * x3)) ≤ x0 then (if x3 = 0 then (none) else (if (Int.tmod x0 x3) = 0 then (some false) else (z171.l0 k x0 (wrap64 (x3 + 1))))) else (some true)
def z171.f (k : Nat) (a0 : Int) : Option (Bool) := (z79.f a0 2 251).bind fun t101 => (if t101 = true then (z171.l0 k a0 2) else (some false))
theorem z171.calls (k : Nat) (a0 : Int) (r : Bool) (w : World) (h : z171.f k a0 = some r) :
  Calls Try.prog 171 #[.int .i64 a0] w fun e w' => e = .returned (.bool r) ∧ Dz w w' := by
 have H : ((z79.f a0 2 251).bind fun t101 => (if t101 = true then (z171.l0 k a0 2) else (some false))) = some r := h
 clear h
 replace H := OZ_ H
 obtain ⟨t101, A2, H⟩ := H
 by_cases c3 : t101 = true
 ·subst c3
  replace H := T_ H
  have H' := Zz.mk H
  clear H
  go_enter Try.func171, Try.ntmps171
  go_wp2_with (first | ((with_reducible refine gC_ (f := 79) rfl ?_); refine GL_ (some 5) rfl rfl Try.func79 #[.int .i64 a0, .int .i64 2, .int .i64 251] rfl (h := ?_); (with_reducible refine (z79.calls a0 2 251 true _ A2.out).mono ?_); rintro e w' ⟨rfl, ⟨nd, rfl⟩⟩; refine ⟨_, rfl, ?_⟩))
  go_loopg [3] k (fun kq v3 w' => ∃ (x3_1 : Int), v3 = .int .i64 x3_1 ∧ Zz (z171.l0 kq a0 x3_1 = some r) ∧ Zz (kq ≤ k) ∧ Dz w w')
  case atStart => exact ⟨(2), E_, H', ⟨Nat.le_refl _⟩, by repeat (first | exact Dz.refl _ | apply Dz.step)⟩
  case round =>
   clear H'
   (try clear c3)
   obtain ⟨x3_1, rfl, HA, HK1, ⟨m1, rfl⟩⟩ := hrel
   cases gk with
   | zero => exact absurd HA.out (by simp [z171.l0])
   | succ k1 =>
    have H := HA.out
    clear HA
    simp only [z171.l0] at H
    by_cases c4 : (wrap64 (x3_1 * x3_1)) ≤ a0
    ·rw [if_pos c4] at H
     have c4b0 : decide ((wrap64 (x3_1 * x3_1)) ≤ a0) = true := decide_eq_true c4
     clear c4
     by_cases c5 : x3_1 = 0
     ·rw [if_pos c5] at H
      exact X_ H
     rw [if_neg c5] at H
     have c5b0 : (x3_1 == 0) = false := beq_eq_false_iff_ne.mpr c5
     have c5b1 : (x3_1 != 0) = true := bne_iff_ne.mpr c5
     by_cases c6 : (Int.tmod a0 x3_1) = 0
     ·rw [if_pos c6] at H
      have c6b0 : ((Int.tmod a0 x3_1) == 0) = true := beq_iff_eq.mpr c6
      have c6b1 : ((Int.tmod a0 x3_1) != 0) = false := bne_eq_false_iff_eq.mpr c6
      clear c6
      obtain rfl := OI_ H
      go_wp2
      go_ret
      exact ⟨by first | rfl | (simp; done) | (simp [*]; done), by repeat (first | exact Dz.refl _ | apply Dz.step)⟩
     rw [if_neg c6] at H
     have c6b0 : ((Int.tmod a0 x3_1) == 0) = false := beq_eq_false_iff_ne.mpr c6
     have c6b1 : ((Int.tmod a0 x3_1) != 0) = true := bne_iff_ne.mpr c6
     have H' := Zz.mk H
     clear H
     go_wp2
     go_roundg k1
     case measure => exact Q1_ HK1
     case rel => exact ⟨(wrap64 (x3_1 + 1)), E_, H', ⟨Q1_ HK1⟩, by repeat (first | exact Dz.refl _ | apply Dz.step)⟩
    rw [if_neg c4] at H
    have c4b0 : decide ((wrap64 (x3_1 * x3_1)) ≤ a0) = false := decide_eq_false c4
    clear c4
    obtain rfl := OI_ H
    go_wp2
    go_ret
    exact ⟨by first | rfl | (simp; done) | (simp [*]; done), by repeat (first | exact Dz.refl _ | apply Dz.step)⟩
 replace c3 := Bool.eq_false_iff.mpr c3
 subst c3
 replace H := N_ H
 obtain rfl := OI_ H
 go_enter Try.func171, Try.ntmps171
 go_wp2_with (first | ((with_reducible refine gC_ (f := 79) rfl ?_); refine GL_ (some 5) rfl rfl Try.func79 #[.int .i64 a0, .int .i64 2, .int .i64 251] rfl (h := ?_); (with_reducible refine (z79.calls a0 2 251 false _ A2.out).mono ?_); rintro e w' ⟨rfl, ⟨nd, rfl⟩⟩; refine ⟨_, rfl, ?_⟩))
 go_ret
 exact ⟨by first | rfl | (simp; done) | (simp [*]; done), by repeat (first | exact Dz.refl _ | apply Dz.step)⟩
def z132.f (k : Nat) (a0 : Int) : Option (Bool) := (z171.f k a0).bind fun t101 => (some t101)
theorem z132.calls (k : Nat) (a0 : Int) (r : Bool) (w : World) (h : z132.f k a0 = some r) :
  Calls Try.prog 132 #[.int .i64 a0] w fun e w' => e = .returned (.bool r) ∧ Dz w w' := by
 have H : ((z171.f k a0).bind fun t101 => (some t101)) = some r := h
 clear h
 replace H := OZ_ H
 obtain ⟨t101, A2, H⟩ := H
 obtain rfl := OI_ H
 go_enter Try.func132, Try.ntmps132
 go_wp2_with (first | ((with_reducible refine gC_ (f := 171) rfl ?_); refine GL_ (some 4) rfl rfl Try.func171 #[.int .i64 a0] rfl (h := ?_); (with_reducible refine (z171.calls k a0 t101 _ A2.out).mono ?_); rintro e w' ⟨rfl, ⟨nd, rfl⟩⟩; refine ⟨_, rfl, ?_⟩))
 go_ret
 exact ⟨by first | rfl | (simp; done) | (simp [*]; done), by repeat (first | exact Dz.refl _ | apply Dz.step)⟩
end Go.Proofs.Ytipkciildhghiaa.B
