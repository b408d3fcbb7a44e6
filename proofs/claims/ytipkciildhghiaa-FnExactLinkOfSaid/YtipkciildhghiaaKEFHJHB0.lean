/- Printed proofs of functions of the program and of the reference, by a program of this work over the kit's printer. -/
import Derived.Test.YtipkciildhghiaaKFPEGOA0
import Derived.Test.YtipkciildhghiaaKW0
namespace Go.Proofs.Ytipkciildhghiaa.B
open Go.RowKit Go.Proofs.YtipkciildhghiaaW.PrintWords Go.Proofs.YtipkciildhghiaaW.PrintLast Go.Proofs.YtipkciildhghiaaW.PrintMore
attribute [local go_sem] max2_int min2_int max_two min_two max_three min_three max_four min_four
set_option linter.unusedVariables false
set_option linter.unusedSimpArgs false
def z94.l0 : Nat → List Int → Int → Int → Int → Option (Int)
 | 0, _, _, _, _ => none
 | k + 1, x0, x1, x7, x8 => if x8 < x7 then (if 0 ≤ x8 then (if x8 < (x0.length : Int) then (if x1 = (rd x0 x8) then (some x8) else (z94.l0 k x0 x1 x7 (wrap64 (x8 + 1)))) else (none)) else (none)) else (some (-1))
def z94.f (k : Nat) (l0 : List Int) (a1 : Int) : Option (Int) := z94.l0 k l0 a1 (l0.length : Int) 0
set_option maxHeartbeats 8000000 in
set_option maxRecDepth 100000 in
theorem z94.calls (k : Nat) (A0 : Option Addr) (c0 : Nat) (l0 : List Int) (a1 : Int) (r : Int) (w : World) (hr0 : Kd.C (Kd.int .i64) w A0 l0.length l0) (hc0 : l0.length ≤ c0) (h : z94.f k l0 a1 = some r) :
  Calls Try.prog 94 #[.slice A0 l0.length c0, .int .i64 a1] w fun e w' => e = .returned (.int .i64 r) ∧ Dz w w' := by
 have HR0 := Zz.mk hr0
 have HC0 := Zz.mk hc0
 clear hr0 hc0
 have H : (z94.l0 k l0 a1 (l0.length : Int) 0) = some r := h
 clear h
 have H' := Zz.mk H
 clear H
 go_enter Try.func94, Try.ntmps94
 go_wp2
 go_loopg [8] k (fun kq v8 w' => ∃ (x8_1 : Int), v8 = .int .i64 x8_1 ∧ Zz (z94.l0 kq l0 a1 (l0.length : Int) x8_1 = some r) ∧ Zz (kq ≤ k) ∧ Dz w w')
 case atStart => exact ⟨(0), E_, H', ⟨Nat.le_refl _⟩, by repeat (first | exact Dz.refl _ | apply Dz.step)⟩
 case round =>
  clear H'
  obtain ⟨x8_1, rfl, HA, HK1, ⟨m1, rfl⟩⟩ := hrel
  cases gk with
  | zero => exact absurd HA.out (by simp [z94.l0])
  | succ k1 =>
   have H := HA.out
   clear HA
   simp only [z94.l0] at H
   by_cases c3 : x8_1 < (l0.length : Int)
   ·rw [if_pos c3] at H
    have c3b0 : decide (x8_1 < (l0.length : Int)) = true := decide_eq_true c3
    clear c3
    have c4b0 := O3_ H
    replace H := O2_ H
    have c5b0 := O3_ H
    replace H := O2_ H
    by_cases c6 : a1 = (rd l0 x8_1)
    ·rw [if_pos c6] at H
     have c6b0 : (a1 == (rd l0 x8_1)) = true := beq_iff_eq.mpr c6
     have c6b1 : (a1 != (rd l0 x8_1)) = false := bne_eq_false_iff_eq.mpr c6
     clear c6
     obtain rfl := OI_ H
     have p101 : 0 ≤ (x8_1 : Int) := D_
     have q101 : x8_1 < (l0.length : Int) := D_
     obtain ⟨ad101, e101, hx101_0⟩ := Kd.at_int HR0.out x8_1 p101 q101
     cases e101
     replace p101 := eq_true p101
     replace q101 := eq_true q101
     go_wp2
     go_ret
     exact eD_
    rw [if_neg c6] at H
    have c6b0 : (a1 == (rd l0 x8_1)) = false := beq_eq_false_iff_ne.mpr c6
    have c6b1 : (a1 != (rd l0 x8_1)) = true := bne_iff_ne.mpr c6
    have H' := Zz.mk H
    clear H
    have p101 : 0 ≤ (x8_1 : Int) := D_
    have q101 : x8_1 < (l0.length : Int) := D_
    obtain ⟨ad101, e101, hx101_0⟩ := Kd.at_int HR0.out x8_1 p101 q101
    cases e101
    replace p101 := eq_true p101
    replace q101 := eq_true q101
    go_wp2
    go_roundg k1
    case measure => exact Q1_ HK1
    case rel => exact ⟨(wrap64 (x8_1 + 1)), E_, H', ⟨Q1_ HK1⟩, by repeat (first | exact Dz.refl _ | apply Dz.step)⟩
   rw [if_neg c3] at H
   have c3b0 : decide (x8_1 < (l0.length : Int)) = false := decide_eq_false c3
   clear c3
   obtain rfl := OI_ H
   go_wp2
   go_ret
   exact eD_
end Go.Proofs.Ytipkciildhghiaa.B
