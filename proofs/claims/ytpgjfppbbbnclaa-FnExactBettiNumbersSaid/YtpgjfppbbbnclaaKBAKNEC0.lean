/- Printed proofs of functions of the program and of the reference, by a program of this work over the kit's printer. -/
import Derived.Test.YtpgjfppbbbnclaaKFFPPEI0
import Derived.Test.YtpgjfppbbbnclaaKGPIBFN0
import Derived.Test.YtpgjfppbbbnclaaKIEDKKF0
import Derived.Test.YtpgjfppbbbnclaaKLCMJEL0
import Derived.Test.YtpgjfppbbbnclaaKLEKPEN0
import Derived.Test.YtpgjfppbbbnclaaKLEKPEN1
import Derived.Test.YtpgjfppbbbnclaaKW0
set_option maxHeartbeats 8000000
set_option maxRecDepth 100000
namespace Go.Proofs.Ytpgjfppbbbnclaa.B
open Go.RowKit Go.Proofs.YtpgjfppbbbnclaaW.PrintWords Go.Proofs.YtpgjfppbbbnclaaW.PrintLast Go.Proofs.YtpgjfppbbbnclaaW.PrintMore
attribute [local go_sem] qAh qAf qAl qAk qAc qAb qAg qAe
set_option linter.unusedVariables false
set_option linter.unusedSimpArgs false
mutual
def z19.j0 : Nat → Int → Bool → List (List Int) → Option (Int)
 | 0, _, _, _ => none
 | k + 1, x1, x8, x102000 => if x8 = true then (some 1) else ((z37.f x1).bind fun t104 => (if t104 = true then (z19.l0 k x1 (wrap64 (x1 - 1)) x102000) else (some 2)))
def z19.l0 : Nat → Int → Int → List (List Int) → Option (Int)
 | 0, _, _, _ => none
 | k + 1, x1, x7, x102000 => if x7 ≤ (wrap64 (x1 + 1)) then ((z38.f k x102000 x7).bind fun t105 => (if (t105.length : Int) > 32 then (some 5) else (z19.l0 k x1 (wrap64 (x7 + 1)) x102000))) else (some 0)
end
def z19.f (k : Nat) (l0_0 : List (List Int)) (a1 : Int) (a2 : Int) : Option (Int) := (z35.f k l0_0).bind fun t102 => (if t102 = true then ((z36.f k a2).bind fun t103 => (z19.j0 k a1 (!t103) l0_0)) else (z19.j0 k a1 true l0_0))
theorem z19.calls (k : Nat) (A0_0 : Option Addr) (c0_0 : Nat) (l0_0 : List (List Int)) (a1 : Int) (a2 : Int) (r : Int) (w : World) (hr0_0 : Kd.C (Kd.slice 2 (Kd.int .i64)) w A0_0 l0_0.length l0_0) (hc0_0 : l0_0.length ≤ c0_0) (h : z19.f k l0_0 a1 a2 = some r) :
  Calls Try.prog 19 #[.agg #[.slice A0_0 l0_0.length c0_0], .int .i64 a1, .int .i64 a2] w fun e w' => e = .returned (.int .i64 r) ∧ Below w.heap.size w w' := by
 have hu29 := Try.underlying29
 have HR0_0 := Zz.mk hr0_0
 have HC0_0 := Zz.mk hc0_0
 clear hr0_0 hc0_0
 have HB := Zz.mk (Below.refl w.heap.size w)
 have H : ((z35.f k l0_0).bind fun t102 => (if t102 = true then ((z36.f k a2).bind fun t103 => (z19.j0 k a1 (!t103) l0_0)) else (z19.j0 k a1 true l0_0))) = some r := h
 clear h
 have HC4 := Zz.mk H
 clear H
 go_enter Try.func19, Try.ntmps19
 go_upto_region 1 with (first | ((with_reducible refine qAm (N := 3) rfl ?_); refine bx_ 3 #[.slice A0_0 l0_0.length c0_0] 29 ?_; intro gb101 hg w5 hbox hb; have BK101 := Zz.mk (hbox); have GW101 := Zz.mk ((gw_ hg (B_ HB.out))); have GE101 := GW101; replace HB := Zz.mk (bT_ (B_ HB.out) hb); clear hb hbox hg))
 (try simp only [Act.put, List.setIfInBounds_toArray, List.set_cons_zero, List.set_cons_succ])
 go_cut [8] (fun v8 wc => ∃ (kq : Nat) (x8_3 : Bool), v8 = .bool x8_3 ∧ Zz (z19.j0 kq a1 x8_3 l0_0 = some r) ∧ Zz (kq ≤ k) ∧ Zz (wc.heap[gb101]? = some (.cells #[(.slice A0_0 l0_0.length c0_0)] 29 (0, 0))) ∧ Zz (Below w.heap.size w wc))
 case first =>
  have H := HC4.out
  clear HC4
  replace H := OZ_ H
  obtain ⟨t102, A6, H⟩ := H
  by_cases c7 : t102 = true
  ·subst c7
   replace H := T_ H
   replace H := OZ_ H
   obtain ⟨t103, A8, H⟩ := H
   have H' := Zz.mk H
   clear H
   obtain ⟨hcz9_0, hfz9_0⟩ := Z1f_ BK101.out
   go_wp2_with (first | ((with_reducible refine gC_ (f := 35) rfl ?_); refine GL_ (some 10) rfl rfl Try.func35 #[.agg #[.slice A0_0 l0_0.length c0_0]] rfl (h := ?_); (with_reducible refine (z35.calls k _ _ l0_0 true _ ?side1 ?side2 A6.out).mono ?_); (case side1 => exact KC_ (Kd.C_below HR0_0.out HB.out)); (case side2 => exact HC0_0.out); rintro e w10 ⟨rfl, hb⟩; refine ⟨_, rfl, ?_⟩; replace BK101 := Zz.mk (kb_ BK101.out hb); replace HB := Zz.mk (bT_ (B1_ HB.out GE101.out) hb); (try clear hb)) | (go_at_call 36; (with_reducible refine (z36.calls k a2 t103 _ A8.out).mono ?_); rintro e w' ⟨rfl, ⟨nd, rfl⟩⟩))
   go_meet
   case rel => exact ⟨_, (!t103), E_, H', ⟨by first | omega | exact Nat.le_refl _⟩, ⟨KB_ BK101.out⟩, ⟨B1_ HB.out GE101.out⟩⟩
  replace c7 := Bool.eq_false_iff.mpr c7
  subst c7
  replace H := N_ H
  have H' := Zz.mk H
  clear H
  obtain ⟨hcz11_0, hfz11_0⟩ := Z1f_ BK101.out
  go_wp2_with (first | ((with_reducible refine gC_ (f := 35) rfl ?_); refine GL_ (some 10) rfl rfl Try.func35 #[.agg #[.slice A0_0 l0_0.length c0_0]] rfl (h := ?_); (with_reducible refine (z35.calls k _ _ l0_0 false _ ?side1 ?side2 A6.out).mono ?_); (case side1 => exact KC_ (Kd.C_below HR0_0.out HB.out)); (case side2 => exact HC0_0.out); rintro e w12 ⟨rfl, hb⟩; refine ⟨_, rfl, ?_⟩; replace BK101 := Zz.mk (kb_ BK101.out hb); replace HB := Zz.mk (bT_ (B1_ HB.out GE101.out) hb); (try clear hb)))
  go_meet
  case rel => exact ⟨_, (true), E_, H', ⟨by first | omega | exact Nat.le_refl _⟩, ⟨KB_ BK101.out⟩, ⟨B1_ HB.out GE101.out⟩⟩
 case rest =>
  clear HC4
  obtain ⟨kq, x8_3, rfl, HA, HJ3, BK101, HB⟩ := hcut
  cases kq with
  | zero => exact absurd HA.out (by simp [z19.j0])
  | succ kj3 =>
   have H := HA.out
   clear HA
   simp only [z19.j0] at H
   by_cases c13 : x8_3 = true
   ·subst c13
    replace H := T_ H
    obtain rfl := OI_ H
    go_wp2
    go_ret
    exact ⟨F_, B1_ HB.out GE101.out⟩
   replace c13 := Bool.eq_false_iff.mpr c13
   subst c13
   replace H := N_ H
   replace H := OZ_ H
   obtain ⟨t104, A14, H⟩ := H
   by_cases c15 : t104 = true
   ·subst c15
    replace H := T_ H
    have H' := Zz.mk H
    clear H
    go_wp2_with (first | ((with_reducible refine gC_ (f := 37) rfl ?_); refine GL_ (some 19) rfl rfl Try.func37 #[.int .i64 a1] rfl (h := ?_); (with_reducible refine (z37.calls a1 true _ A14.out).mono ?_); rintro e w' ⟨rfl, ⟨nd, rfl⟩⟩; refine ⟨_, rfl, ?_⟩))
    go_loopg [7] kj3 (fun kq v7 w' => ∃ (x7_2 : Int), v7 = .int .i64 x7_2 ∧ Zz (z19.l0 kq a1 x7_2 l0_0 = some r) ∧ Zz (kq ≤ kj3) ∧ Zz (w'.heap[gb101]? = some (.cells #[(.slice A0_0 l0_0.length c0_0)] 29 (0, 0))) ∧ Zz (Below w.heap.size w w'))
    case atStart => exact ⟨(wrap64 (a1 - 1)), E_, H', ⟨Nat.le_refl _⟩, ⟨KB_ BK101.out⟩, ⟨B1_ HB.out GE101.out⟩⟩
    case round =>
     clear H'
     (try clear c13);(try clear c15)
     obtain ⟨x7_2, rfl, HA, HK2, BK101, HB⟩ := hrel
     cases gk with
     | zero => exact absurd HA.out (by simp [z19.l0])
     | succ k2 =>
      have H := HA.out
      clear HA
      simp only [z19.l0] at H
      by_cases c16 : x7_2 ≤ (wrap64 (a1 + 1))
      ·rw [if_pos c16] at H
       have c16b0 : decide (x7_2 ≤ (wrap64 (a1 + 1))) = true := decide_eq_true c16
       clear c16
       replace H := OZ_ H
       obtain ⟨t105, A17, H⟩ := H
       by_cases c18 : (t105.length : Int) > 32
       ·rw [if_pos c18] at H
        have c18b0 : decide (32 < (t105.length : Int)) = true := decide_eq_true c18
        have c18b1 : decide (32 < t105.length) = true := decide_eq_true (by omega)
        clear c18
        obtain rfl := OI_ H
        obtain ⟨hcz19_0, hfz19_0⟩ := Z1f_ BK101.out
        go_wp2_with (first | ((with_reducible refine gC_ (f := 38) rfl ?_); refine GL_ (some 31) rfl rfl Try.func38 #[.agg #[.slice A0_0 l0_0.length c0_0], .int .i64 x7_2] rfl (h := ?_); (with_reducible refine (z38.calls k2 _ _ l0_0 x7_2 t105 _ ?side1 ?side2 A17.out).mono ?_); (case side1 => exact KC_ (Kd.C_below HR0_0.out HB.out)); (case side2 => exact HC0_0.out); rintro e w20 ⟨v106, rfl, ho0, hb⟩; refine ⟨_, rfl, ?_⟩; have HO107 := Zz.mk (Kd.R_lower ho0 (bS_ (B1_ HB.out GE101.out))); replace BK101 := Zz.mk (kb_ BK101.out hb); replace HB := Zz.mk (bT_ (B1_ HB.out GE101.out) hb); (try clear hb); (try clear ho0); obtain ⟨Ao21, co21, eo21⟩ := Kd.R_slice HO107.out; subst eo21))
        go_ret
        exact ⟨F_, B1_ HB.out GE101.out⟩
       rw [if_neg c18] at H
       have c18b0 : decide (32 < (t105.length : Int)) = false := decide_eq_false c18
       have c18b1 : decide (32 < t105.length) = false := decide_eq_false (by omega)
       clear c18
       have H' := Zz.mk H
       clear H
       obtain ⟨hcz22_0, hfz22_0⟩ := Z1f_ BK101.out
       go_wp2_with (first | ((with_reducible refine gC_ (f := 38) rfl ?_); refine GL_ (some 31) rfl rfl Try.func38 #[.agg #[.slice A0_0 l0_0.length c0_0], .int .i64 x7_2] rfl (h := ?_); (with_reducible refine (z38.calls k2 _ _ l0_0 x7_2 t105 _ ?side1 ?side2 A17.out).mono ?_); (case side1 => exact KC_ (Kd.C_below HR0_0.out HB.out)); (case side2 => exact HC0_0.out); rintro e w23 ⟨v106, rfl, ho0, hb⟩; refine ⟨_, rfl, ?_⟩; have HO107 := Zz.mk (Kd.R_lower ho0 (bS_ (B1_ HB.out GE101.out))); replace BK101 := Zz.mk (kb_ BK101.out hb); replace HB := Zz.mk (bT_ (B1_ HB.out GE101.out) hb); (try clear hb); (try clear ho0); obtain ⟨Ao24, co24, eo24⟩ := Kd.R_slice HO107.out; subst eo24))
       go_roundg k2
       case measure => have := HJ3.out; have := HK2.out; omega
       case rel => exact ⟨(wrap64 (x7_2 + 1)), E_, H', ⟨by have := HJ3.out; have := HK2.out; omega⟩, ⟨KB_ BK101.out⟩, ⟨B1_ HB.out GE101.out⟩⟩
      rw [if_neg c16] at H
      have c16b0 : decide (x7_2 ≤ (wrap64 (a1 + 1))) = false := decide_eq_false c16
      clear c16
      obtain rfl := OI_ H
      go_wp2
      go_ret
      exact ⟨F_, B1_ HB.out GE101.out⟩
   replace c15 := Bool.eq_false_iff.mpr c15
   subst c15
   replace H := N_ H
   obtain rfl := OI_ H
   go_wp2_with (first | ((with_reducible refine gC_ (f := 37) rfl ?_); refine GL_ (some 19) rfl rfl Try.func37 #[.int .i64 a1] rfl (h := ?_); (with_reducible refine (z37.calls a1 false _ A14.out).mono ?_); rintro e w' ⟨rfl, ⟨nd, rfl⟩⟩; refine ⟨_, rfl, ?_⟩))
   go_ret
   exact ⟨F_, B1_ HB.out GE101.out⟩
mutual
def z5.j0 : Nat → Int → Bool → List (List Int) → Option (List Int × Int)
 | 0, _, _, _ => none
 | k + 1, x1, x14, x102000 => if x14 = true then (some (([] : List Int), 1)) else (z5.l0 k x1 (([] : List Int)) 0 x102000)
def z5.l0 : Nat → Int → List Int → Int → List (List Int) → Option (List Int × Int)
 | 0, _, _, _, _ => none
 | k + 1, x1, x6, x7, x102000 => if x7 ≤ 3 then ((z16.f k x102000 x7 x1).bind fun t107 => (if t107 = 0 then ((z17.f k x102000 x7 x1).bind fun t108 => (if x6.length < 17592186044416 then (z5.l0 k x1 (x6 ++ [t108]) (wrap64 (x7 + 1)) x102000) else (none))) else (some (([] : List Int), 5)))) else (some (x6, 0))
end
def z5.f (k : Nat) (l0_0 : List (List Int)) (a1 : Int) : Option (List Int × Int) := (z14.f k l0_0).bind fun t102 => (if t102 = true then ((z15.f k a1).bind fun t103 => (z5.j0 k a1 (!t103) l0_0)) else (z5.j0 k a1 true l0_0))
theorem z5.calls (k : Nat) (A0_0 : Option Addr) (c0_0 : Nat) (l0_0 : List (List Int)) (a1 : Int) (r1 : List Int) (r2 : Int) (w : World) (hr0_0 : Kd.C (Kd.slice 2 (Kd.int .i64)) w A0_0 l0_0.length l0_0) (hc0_0 : l0_0.length ≤ c0_0) (h : z5.f k l0_0 a1 = some (r1, r2)) :
  Calls Try.prog 5 #[.agg #[.slice A0_0 l0_0.length c0_0], .int .i64 a1] w fun e w' => ∃ v0_ : Value, e = .returned (.tuple #[v0_, .int .i64 r2]) ∧ Kd.R (Kd.int .i64) 2 w' w.heap.size (fun _ => True) v0_ r1 ∧ Below w.heap.size w w' := by
 have hu29 := Try.underlying29
 have HR0_0 := Zz.mk hr0_0
 have HC0_0 := Zz.mk hc0_0
 clear hr0_0 hc0_0
 have HB := Zz.mk (Below.refl w.heap.size w)
 have H : ((z14.f k l0_0).bind fun t102 => (if t102 = true then ((z15.f k a1).bind fun t103 => (z5.j0 k a1 (!t103) l0_0)) else (z5.j0 k a1 true l0_0))) = some (r1, r2) := h
 clear h
 have HC3 := Zz.mk H
 clear H
 go_enter Try.func5, Try.ntmps5
 go_upto_region 1 with (first | ((with_reducible refine qAm (N := 2) rfl ?_); refine bx_ 2 #[.slice A0_0 l0_0.length c0_0] 29 ?_; intro gb101 hg w4 hbox hb; have BK101 := Zz.mk (hbox); have GW101 := Zz.mk ((gw_ hg (B_ HB.out))); have GE101 := GW101; replace HB := Zz.mk (bT_ (B_ HB.out) hb); clear hb hbox hg))
 (try simp only [Act.put, List.setIfInBounds_toArray, List.set_cons_zero, List.set_cons_succ])
 go_cut [14] (fun v14 wc => ∃ (kq : Nat) (x14_2 : Bool), v14 = .bool x14_2 ∧ Zz (z5.j0 kq a1 x14_2 l0_0 = some (r1, r2)) ∧ Zz (kq ≤ k) ∧ Zz (wc.heap[gb101]? = some (.cells #[(.slice A0_0 l0_0.length c0_0)] 29 (0, 0))) ∧ Zz (Below w.heap.size w wc))
 case first =>
  have H := HC3.out
  clear HC3
  replace H := OB_ H
  obtain ⟨t102, A50, H⟩ := H
  replace H : (if t102 = true then ((z15.f k a1).bind fun t103 => (z5.j0 k a1 (!t103) l0_0)) else (z5.j0 k a1 true l0_0)) = some (r1, r2) := H
  have A5 := Zz.mk A50
  clear A50
  by_cases c6 : t102 = true
  ·subst c6
   have H1 : ((z15.f k a1).bind fun t103 => (z5.j0 k a1 (!t103) l0_0)) = some (r1, r2) := by rw [if_pos rfl] at H; exact H
   clear H
   have H := H1
   clear H1
   replace H := OB_ H
   obtain ⟨t103, A70, H⟩ := H
   replace H : (z5.j0 k a1 (!t103) l0_0) = some (r1, r2) := H
   have A7 := Zz.mk A70
   clear A70
   have H' := Zz.mk H
   clear H
   go_wp2_with (first | ((with_reducible refine gC_ (f := 14) rfl ?_); refine GL_ (some 8) rfl rfl Try.func14 #[.pointer (some ⟨gb101, 0, none⟩)] rfl (h := ?_); (with_reducible refine (z14.calls k gb101 A0_0 c0_0 l0_0 true _ ?side1 ?side2 ?side3 A5.out).mono ?_); (case side1 => refine BW_ ?_; exact BK101.out); (case side2 => exact KC_ (Kd.C_below HR0_0.out HB.out)); (case side3 => exact HC0_0.out); rintro e w8 ⟨rfl, hb⟩; refine ⟨_, rfl, ?_⟩; replace BK101 := Zz.mk (kb_ BK101.out hb); replace HB := Zz.mk (bT_ (B1_ HB.out GE101.out) hb); (try clear hb)) | (go_at_call 15; (with_reducible refine (z15.calls k a1 t103 _ A7.out).mono ?_); rintro e w' ⟨rfl, ⟨nd, rfl⟩⟩))
   go_meet
   case rel => exact ⟨_, (!t103), E_, H', ⟨by first | omega | exact Nat.le_refl _⟩, ⟨KB_ BK101.out⟩, ⟨B1_ HB.out GE101.out⟩⟩
  replace c6 := Bool.eq_false_iff.mpr c6
  subst c6
  have H1 : (z5.j0 k a1 true l0_0) = some (r1, r2) := by rw [if_neg (show ¬ (false = true) by decide)] at H; exact H
  clear H
  have H := H1
  clear H1
  have H' := Zz.mk H
  clear H
  go_wp2_with (first | ((with_reducible refine gC_ (f := 14) rfl ?_); refine GL_ (some 8) rfl rfl Try.func14 #[.pointer (some ⟨gb101, 0, none⟩)] rfl (h := ?_); (with_reducible refine (z14.calls k gb101 A0_0 c0_0 l0_0 false _ ?side1 ?side2 ?side3 A5.out).mono ?_); (case side1 => refine BW_ ?_; exact BK101.out); (case side2 => exact KC_ (Kd.C_below HR0_0.out HB.out)); (case side3 => exact HC0_0.out); rintro e w9 ⟨rfl, hb⟩; refine ⟨_, rfl, ?_⟩; replace BK101 := Zz.mk (kb_ BK101.out hb); replace HB := Zz.mk (bT_ (B1_ HB.out GE101.out) hb); (try clear hb)))
  go_meet
  case rel => exact ⟨_, (true), E_, H', ⟨by first | omega | exact Nat.le_refl _⟩, ⟨KB_ BK101.out⟩, ⟨B1_ HB.out GE101.out⟩⟩
 case rest =>
  clear HC3
  obtain ⟨kq, x14_2, rfl, HA, HJ2, BK101, HB⟩ := hcut
  cases kq with
  | zero => exact absurd HA.out (by simp [z5.j0])
  | succ kj2 =>
   have H := HA.out
   clear HA
   simp only [z5.j0] at H
   by_cases c10 : x14_2 = true
   ·subst c10
    have H1 : (some (([] : List Int), 1)) = some (r1, r2) := by rw [if_pos rfl] at H; exact H
    clear H
    have H := H1
    clear H1
    simp only [Option.some.injEq, Prod.mk.injEq] at H
    obtain ⟨rfl, rfl⟩ := H
    go_wp2
    go_ret2
    exact ⟨_, F_, by first | exact Kd.R_nil _ _ _ _ _ | exact Kd.N_nil _ _ _ _ _ | exact Kd.V_nil _ _ _ _ _ | exact Kd.Q_nil _ _ _ _ _ | exact Kd.S_nil _ _ _ _ _, B1_ HB.out GE101.out⟩
   replace c10 := Bool.eq_false_iff.mpr c10
   subst c10
   have H1 : (z5.l0 kj2 a1 (([] : List Int)) 0 l0_0) = some (r1, r2) := by rw [if_neg (show ¬ (false = true) by decide)] at H; exact H
   clear H
   have H := H1
   clear H1
   obtain ⟨y104, hy104⟩ : ∃ y_ : List Int, y_ = (([] : List Int)) := ⟨_, rfl⟩
   replace H : (z5.l0 kj2 a1 y104 0 l0_0) = some (r1, r2) := Y_ hy104 H
   have Ny104 := Zz.mk hy104
   clear hy104
   have H' := Zz.mk H
   clear H
   go_wp2_with (first | ((with_reducible refine qAm (N := 15) rfl ?_); refine Kd.R_lit (Kd.int .i64) _ 2 ?hg (N := 15) ?hd (xs := ([] : List Int)) (inner := []) (ok := fun _ => True) (okp := fun _ => True) ?hr ?hp (fun _ hk => hk) trivial (Below.refl _ _) (Nat.le_refl _) (by simp) ?_; (case hd => rfl); (case hg => rfl); (case hr => first | (go_simp; done) | (go_simp; rfl)); (case hp => exact (Reps.none _ _)); intro v105 w11 ho12 hb hg_ hnew_; clear hg_ hnew_; (first | rw [← Ny104.out] at ho12 | (simp only [Int.reduceToNat] at ho12; rw [← Ny104.out] at ho12)); have HO106 := Zz.mk (Kd.R_lower ho12 (bS_ (B1_ HB.out GE101.out))); replace BK101 := Zz.mk (kb_ BK101.out hb); replace HB := Zz.mk (bT_ (B1_ HB.out GE101.out) hb); clear hb ho12))
   go_loopg [6, 7] kj2 (fun kq v6 v7 w' => ∃ (x6_2 : List Int) (x7_2 : Int), v7 = .int .i64 x7_2 ∧ Zz (z5.l0 kq a1 x6_2 x7_2 l0_0 = some (r1, r2)) ∧ Zz (kq ≤ kj2) ∧ Zz (Kd.R (Kd.int .i64) 2 w' w.heap.size (fun _ => True) v6 x6_2) ∧ Zz (w'.heap[gb101]? = some (.cells #[(.slice A0_0 l0_0.length c0_0)] 29 (0, 0))) ∧ Zz (Below w.heap.size w w'))
   case atStart => exact ⟨(y104), (0), E_, H', ⟨Nat.le_refl _⟩, ⟨KR_ HO106.out⟩, ⟨KB_ BK101.out⟩, ⟨B1_ HB.out GE101.out⟩⟩
   case round =>
    clear H'
    (try clear c10)
    obtain ⟨x6_2, x7_2, rfl, HA, HK2, HO_6, BK101, HB⟩ := hrel
    cases gk with
    | zero => exact absurd HA.out (by simp [z5.l0])
    | succ k2 =>
     have H := HA.out
     clear HA
     simp only [z5.l0] at H
     by_cases c13 : x7_2 ≤ 3
     ·rw [if_pos c13] at H
      have c13b0 : decide (x7_2 ≤ 3) = true := decide_eq_true c13
      clear c13
      replace H := OB_ H
      obtain ⟨t107, A140, H⟩ := H
      replace H : (if t107 = 0 then ((z17.f k2 l0_0 x7_2 a1).bind fun t108 => (if x6_2.length < 17592186044416 then (z5.l0 k2 a1 (x6_2 ++ [t108]) (wrap64 (x7_2 + 1)) l0_0) else (none))) else (some (([] : List Int), 5))) = some (r1, r2) := H
      have A14 := Zz.mk A140
      clear A140
      by_cases c15 : t107 = 0
      ·rw [if_pos c15] at H
       have c15b0 : (t107 == 0) = true := beq_iff_eq.mpr c15
       have c15b1 : (t107 != 0) = false := bne_eq_false_iff_eq.mpr c15
       clear c15
       replace H := OB_ H
       obtain ⟨t108, A160, H⟩ := H
       replace H : (if x6_2.length < 17592186044416 then (z5.l0 k2 a1 (x6_2 ++ [t108]) (wrap64 (x7_2 + 1)) l0_0) else (none)) = some (r1, r2) := H
       have A16 := Zz.mk A160
       clear A160
       have c17 := O1_ H
       replace H := O2_ H
       have LMc17 := Zz.mk c17
       clear c17
       obtain ⟨y109, hy109⟩ : ∃ y_ : List Int, y_ = (x6_2 ++ [t108]) := ⟨_, rfl⟩
       replace H : (z5.l0 k2 a1 y109 (wrap64 (x7_2 + 1)) l0_0) = some (r1, r2) := Y_ hy109 H
       have Ny109 := Zz.mk hy109
       clear hy109
       have H' := Zz.mk H
       clear H
       go_wp2_with (first | ((with_reducible refine gC_ (f := 16) rfl ?_); refine GL_ (some 22) rfl rfl Try.func16 #[.pointer (some ⟨gb101, 0, none⟩), .int .i64 x7_2, .int .i64 a1] rfl (h := ?_); (with_reducible refine (z16.calls k2 gb101 A0_0 c0_0 l0_0 x7_2 a1 t107 _ ?side1 ?side2 ?side3 A14.out).mono ?_); (case side1 => refine BW_ ?_; exact BK101.out); (case side2 => exact KC_ (Kd.C_below HR0_0.out HB.out)); (case side3 => exact HC0_0.out); rintro e w18 ⟨rfl, hb⟩; refine ⟨_, rfl, ?_⟩; replace HO_6 := Zz.mk (Kd.R_below (KR_ HO_6.out) hb); replace BK101 := Zz.mk (kb_ BK101.out hb); replace HB := Zz.mk (bT_ (B1_ HB.out GE101.out) hb); (try clear hb)) | ((with_reducible refine gC_ (f := 17) rfl ?_); refine GL_ (some 27) rfl rfl Try.func17 #[.pointer (some ⟨gb101, 0, none⟩), .int .i64 x7_2, .int .i64 a1] rfl (h := ?_); (with_reducible refine (z17.calls k2 gb101 A0_0 c0_0 l0_0 x7_2 a1 t108 _ ?side1 ?side2 ?side3 A16.out).mono ?_); (case side1 => refine BW_ ?_; exact BK101.out); (case side2 => exact KC_ (Kd.C_below HR0_0.out HB.out)); (case side3 => exact HC0_0.out); rintro e w19 ⟨rfl, hb⟩; refine ⟨_, rfl, ?_⟩; replace HO_6 := Zz.mk (Kd.R_below (KR_ HO_6.out) hb); replace BK101 := Zz.mk (kb_ BK101.out hb); replace HB := Zz.mk (bT_ (B1_ HB.out GE101.out) hb); (try clear hb)) | ((with_reducible refine qAv (b := .append) (xs := #[.tmp 24, .tmp 28]) rfl ?_); at_builtin; refine Kd.R_append (Kd.int .i64) (w0 := w) w.heap.size rfl (.tmp 24) (.tmp 28) 26 2 (.int .i64 0) 8 rfl Try.underlying26 qB9 rfl (by decide) (by omega) u6 x6_2 t108 [.int .i64 t108] (fun _ => True) (fun _ => False) rfl rfl ?aP (fun _ hk => hk.elim) ?aF ?aO ?aB ?aS ?aL ?_; (case aP => exact rfl); (case aB => exact (B1_ HB.out GE101.out)); (case aF => exact (fun _ _ => trivial)); (case aO => exact (KR_ HO_6.out)); (case aS => exact (bS_ (B1_ HB.out GE101.out))); (case aL => have := LMc17.out; omega); intro v110 w20 ho hb hg hat; rw [← Ny109.out] at ho; replace BK101 := Zz.mk (qAy (g := gb101) (o := .cells #[.slice A0_0 l0_0.length c0_0] 29 (0, 0)) (KB_ BK101.out) hg (Kd.R_ne HO_6.out BK101.out (by decide))); replace HB := Zz.mk (hb); have HO111 := Zz.mk (ho); clear HO_6; clear ho hb hg hat))
       go_roundg k2
       case measure => have := HJ2.out; have := HK2.out; omega
       case rel => exact ⟨(y109), (wrap64 (x7_2 + 1)), E_, H', ⟨by have := HJ2.out; have := HK2.out; omega⟩, ⟨KR_ HO111.out⟩, ⟨KB_ BK101.out⟩, ⟨B1_ HB.out GE101.out⟩⟩
      rw [if_neg c15] at H
      have c15b0 : (t107 == 0) = false := beq_eq_false_iff_ne.mpr c15
      have c15b1 : (t107 != 0) = true := bne_iff_ne.mpr c15
      simp only [Option.some.injEq, Prod.mk.injEq] at H
      obtain ⟨rfl, rfl⟩ := H
      go_wp2_with (first | ((with_reducible refine gC_ (f := 16) rfl ?_); refine GL_ (some 22) rfl rfl Try.func16 #[.pointer (some ⟨gb101, 0, none⟩), .int .i64 x7_2, .int .i64 a1] rfl (h := ?_); (with_reducible refine (z16.calls k2 gb101 A0_0 c0_0 l0_0 x7_2 a1 t107 _ ?side1 ?side2 ?side3 A14.out).mono ?_); (case side1 => refine BW_ ?_; exact BK101.out); (case side2 => exact KC_ (Kd.C_below HR0_0.out HB.out)); (case side3 => exact HC0_0.out); rintro e w21 ⟨rfl, hb⟩; refine ⟨_, rfl, ?_⟩; replace HO_6 := Zz.mk (Kd.R_below (KR_ HO_6.out) hb); replace BK101 := Zz.mk (kb_ BK101.out hb); replace HB := Zz.mk (bT_ (B1_ HB.out GE101.out) hb); (try clear hb)))
      go_ret2
      exact ⟨_, F_, by first | exact Kd.R_nil _ _ _ _ _ | exact Kd.N_nil _ _ _ _ _ | exact Kd.V_nil _ _ _ _ _ | exact Kd.Q_nil _ _ _ _ _ | exact Kd.S_nil _ _ _ _ _, B1_ HB.out GE101.out⟩
     rw [if_neg c13] at H
     have c13b0 : decide (x7_2 ≤ 3) = false := decide_eq_false c13
     clear c13
     simp only [Option.some.injEq, Prod.mk.injEq] at H
     obtain ⟨rfl, rfl⟩ := H
     go_wp2
     go_ret2
     exact ⟨_, F_, KR_ HO_6.out, B1_ HB.out GE101.out⟩
end Go.Proofs.Ytpgjfppbbbnclaa.B
