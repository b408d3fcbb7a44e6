/- Printed proofs of functions of the program and of the reference, by a program of this work over the kit's printer. -/
import Derived.Test.YtipkciildhghiaaKEFHJHB0
import Derived.Test.YtipkciildhghiaaKFPEGOA0
import Derived.Test.YtipkciildhghiaaKW0
set_option maxHeartbeats 8000000
set_option maxRecDepth 100000
namespace Go.Proofs.Ytipkciildhghiaa.B
open Go.RowKit Go.Proofs.YtipkciildhghiaaW.PrintWords Go.Proofs.YtipkciildhghiaaW.PrintLast Go.Proofs.YtipkciildhghiaaW.PrintMore
attribute [local go_sem] max2_int min2_int max_two min_two max_three min_three max_four min_four
set_option linter.unusedVariables false
set_option linter.unusedSimpArgs false
def z122.f (k : Nat) (l0 : List Int) (a1 : Int) : Option (Bool) := (z94.f k l0 a1).bind fun t101 => (some (decide (t101 ≥ 0)))
theorem z122.calls (k : Nat) (A0 : Option Addr) (c0 : Nat) (l0 : List Int) (a1 : Int) (r : Bool) (w : World) (hr0 : Kd.C (Kd.int .i64) w A0 l0.length l0) (hc0 : l0.length ≤ c0) (h : z122.f k l0 a1 = some r) :
  Calls Try.prog 122 #[.slice A0 l0.length c0, .int .i64 a1] w fun e w' => e = .returned (.bool r) ∧ Dz w w' := by
 have HR0 := Zz.mk hr0
 have HC0 := Zz.mk hc0
 clear hr0 hc0
 have H : ((z94.f k l0 a1).bind fun t101 => (some (decide (t101 ≥ 0)))) = some r := h
 clear h
 replace H := OZ_ H
 obtain ⟨t101, A3, H⟩ := H
 obtain rfl := OI_ H
 go_enter Try.func122, Try.ntmps122
 go_wp2_with (first | ((with_reducible refine gC_ (f := 94) rfl ?_); refine GL_ (some 7) rfl rfl Try.func94 #[.slice A0 l0.length c0, .int .i64 a1] rfl (h := ?_); (with_reducible refine (z94.calls k _ _ l0 a1 t101 _ ?side1 ?side2 A3.out).mono ?_); (case side1 => exact KC_ HR0.out); (case side2 => exact HC0.out); rintro e w' ⟨rfl, ⟨nd, rfl⟩⟩; refine ⟨_, rfl, ?_⟩))
 go_ret
 exact eD_
def z67.l0 : Nat → List Int → Int → Int → Option (Bool)
 | 0, _, _, _ => none
 | k + 1, x0, x1, x5 => if x5 < (x0.length : Int) then (if 0 ≤ x5 then (if (rd x0 x5) = x1 then (some true) else (z67.l0 k x0 x1 (wrap64 (x5 + 1)))) else (none)) else (some false)
def z67.f (k : Nat) (l0 : List Int) (a1 : Int) : Option (Bool) := z67.l0 k l0 a1 0
theorem z67.calls (k : Nat) (A0 : Option Addr) (c0 : Nat) (l0 : List Int) (a1 : Int) (r : Bool) (w : World) (hr0 : Kd.C (Kd.int .i64) w A0 l0.length l0) (hc0 : l0.length ≤ c0) (h : z67.f k l0 a1 = some r) :
  Calls Try.prog 67 #[.slice A0 l0.length c0, .int .i64 a1] w fun e w' => e = .returned (.bool r) ∧ Dz w w' := by
 have HR0 := Zz.mk hr0
 have HC0 := Zz.mk hc0
 clear hr0 hc0
 have H : (z67.l0 k l0 a1 0) = some r := h
 clear h
 have H' := Zz.mk H
 clear H
 go_enter Try.func67, Try.ntmps67
 go_wp2
 go_loopg [5] k (fun kq v5 w' => ∃ (x5_1 : Int), v5 = .int .i64 x5_1 ∧ Zz (z67.l0 kq l0 a1 x5_1 = some r) ∧ Zz (kq ≤ k) ∧ Dz w w')
 case atStart => exact ⟨(0), E_, H', ⟨Nat.le_refl _⟩, by repeat (first | exact Dz.refl _ | apply Dz.step)⟩
 case round =>
  clear H'
  obtain ⟨x5_1, rfl, HA, HK1, ⟨m1, rfl⟩⟩ := hrel
  cases gk with
  | zero => exact absurd HA.out (by simp [z67.l0])
  | succ k1 =>
   have H := HA.out
   clear HA
   simp only [z67.l0] at H
   by_cases c3 : x5_1 < (l0.length : Int)
   ·rw [if_pos c3] at H
    have c3b0 : decide (x5_1 < (l0.length : Int)) = true := decide_eq_true c3
    clear c3
    have c4b0 := O3_ H
    replace H := O2_ H
    by_cases c5 : (rd l0 x5_1) = a1
    ·rw [if_pos c5] at H
     have c5b0 : ((rd l0 x5_1) == a1) = true := beq_iff_eq.mpr c5
     have c5b1 : ((rd l0 x5_1) != a1) = false := bne_eq_false_iff_eq.mpr c5
     clear c5
     obtain rfl := OI_ H
     have p101 : 0 ≤ (x5_1 : Int) := D_
     have q101 : x5_1 < (l0.length : Int) := D_
     obtain ⟨ad101, e101, hx101_0⟩ := Kd.at_int HR0.out x5_1 p101 q101
     cases e101
     replace p101 := eq_true p101
     replace q101 := eq_true q101
     go_wp2
     go_ret
     exact eD_
    rw [if_neg c5] at H
    have c5b0 : ((rd l0 x5_1) == a1) = false := beq_eq_false_iff_ne.mpr c5
    have c5b1 : ((rd l0 x5_1) != a1) = true := bne_iff_ne.mpr c5
    have H' := Zz.mk H
    clear H
    have p101 : 0 ≤ (x5_1 : Int) := D_
    have q101 : x5_1 < (l0.length : Int) := D_
    obtain ⟨ad101, e101, hx101_0⟩ := Kd.at_int HR0.out x5_1 p101 q101
    cases e101
    replace p101 := eq_true p101
    replace q101 := eq_true q101
    go_wp2
    go_roundg k1
    case measure => exact Q1_ HK1
    case rel => exact ⟨(wrap64 (x5_1 + 1)), E_, H', ⟨Q1_ HK1⟩, by repeat (first | exact Dz.refl _ | apply Dz.step)⟩
   rw [if_neg c3] at H
   have c3b0 : decide (x5_1 < (l0.length : Int)) = false := decide_eq_false c3
   clear c3
   obtain rfl := OI_ H
   go_wp2
   go_ret
   exact eD_
end Go.Proofs.Ytipkciildhghiaa.B
