/- Printed proofs of functions of the program and of the reference, by a program of this work over the kit's printer. -/
import Derived.Test.YtnohkeijhfjbeaaKGPBBGI0
import Derived.Test.YtnohkeijhfjbeaaKW0
namespace Go.Proofs.Ytnohkeijhfjbeaa.B
open Go.RowKit Go.Proofs.YtnohkeijhfjbeaaW.PrintWords Go.Proofs.YtnohkeijhfjbeaaW.PrintLast Go.Proofs.YtnohkeijhfjbeaaW.PrintMore
attribute [local go_sem] max2_int min2_int max_two min_two max_three min_three max_four min_four
set_option linter.unusedVariables false
set_option linter.unusedSimpArgs false
/-! ### impl_below_moebius: function 78 -/
mutual
def impl_below_moebius.l0 : Nat → List (List Bool) → Int → Int → Int → Int → Int → Option (Int)
 | 0, _, _, _, _, _, _ => none
 | k + 1, x0, x1, x2, x7, x13, x14 => if x14 < x13 then (if x14 = x2 then (impl_below_moebius.l0 k x0 x1 x2 x7 x13 (wrap64 (x14 + 1))) else (if 0 ≤ x1 then (if x1 < (x0.length : Int) then (if 0 ≤ x14 then (if x14 < ((rd_ListBool x0 x1).length : Int) then (if rdOf false (rd_ListBool x0 x1) x14 = true then (if x14 < (x0.length : Int) then (if 0 ≤ x2 then (if x2 < ((rd_ListBool x0 x14).length : Int) then (if rdOf false (rd_ListBool x0 x14) x2 = true then ((impl_below_moebius.f k x0 x1 x14).bind fun t105 => (impl_below_moebius.l0 k x0 x1 x2 (wrap64 (x7 + t105)) x13 (wrap64 (x14 + 1)))) else (impl_below_moebius.l0 k x0 x1 x2 x7 x13 (wrap64 (x14 + 1)))) else (none)) else (none)) else (none)) else (impl_below_moebius.l0 k x0 x1 x2 x7 x13 (wrap64 (x14 + 1)))) else (none)) else (none)) else (none)) else (none))) else (some (wrap64 (-x7)))
def impl_below_moebius.f : Nat → List (List Bool) → Int → Int → Option (Int)
 | 0, _, _, _ => none
 | k + 1, l0, a1, a2 => if a1 = a2 then (some 1) else (impl_below_moebius.l0 k l0 a1 a2 0 (l0.length : Int) 0)
end
theorem impl_below_moebius.mono_l : ∀ k, (∀ y0 y1 y2, LeO (impl_below_moebius.f k y0 y1 y2) (impl_below_moebius.f (k + 1) y0 y1 y2)) ∧ (∀ y0 y1 y2 y3 y4 y5, LeO (impl_below_moebius.l0 k y0 y1 y2 y3 y4 y5) (impl_below_moebius.l0 (k + 1) y0 y1 y2 y3 y4 y5))
 | 0 => ⟨fun _ _ _ r h => by simp [impl_below_moebius.f] at h, fun _ _ _ _ _ _ r h => by simp [impl_below_moebius.l0] at h⟩
 | k + 1 => by
  obtain ⟨ih0, ih1⟩ := impl_below_moebius.mono_l k
  refine ⟨?_, ?_⟩
  ·intro y0 y1 y2
   unfold impl_below_moebius.f
   repeat' first
   | (with_reducible exact ih0 _ _ _)
   | (with_reducible exact ih1 _ _ _ _ _ _)
   | (with_reducible exact LeO.refl _)
   | (with_reducible exact LeO.none _)
   | (with_reducible refine LeO.ite ?_ ?_)
   | (with_reducible refine LeO.bind ?_ (fun _ => ?_))
   | exact ih0 _ _ _
   | exact ih1 _ _ _ _ _ _
   | exact LeO.none _
   | refine LeO.ite ?_ ?_
   | refine LeO.bind ?_ (fun _ => ?_)
  ·intro y0 y1 y2 y3 y4 y5
   unfold impl_below_moebius.l0
   repeat' first
   | (with_reducible exact ih0 _ _ _)
   | (with_reducible exact ih1 _ _ _ _ _ _)
   | (with_reducible exact LeO.refl _)
   | (with_reducible exact LeO.none _)
   | (with_reducible refine LeO.ite ?_ ?_)
   | (with_reducible refine LeO.bind ?_ (fun _ => ?_))
   | exact ih0 _ _ _
   | exact ih1 _ _ _ _ _ _
   | exact LeO.none _
   | refine LeO.ite ?_ ?_
   | refine LeO.bind ?_ (fun _ => ?_)
theorem impl_below_moebius.mono : ∀ a0 a1 a2 k, LeO (impl_below_moebius.f k a0 a1 a2) (impl_below_moebius.f (k + 1) a0 a1 a2) := by
 intro a0 a1 a2 k
 obtain ⟨ih0, ih1⟩ := impl_below_moebius.mono_l k
 exact ih0 a0 a1 a2
set_option maxHeartbeats 8000000 in
set_option maxRecDepth 100000 in
theorem impl_below_moebius.calls (k : Nat) : ∀ (A0 : Option Addr) (c0 : Nat) (l0 : List (List Bool)) (a1 : Int) (a2 : Int) (r : Int) (w : World) (hr0 : Kd.C (Kd.slice 4 Kd.bool) w A0 l0.length l0) (hc0 : l0.length ≤ c0) (h : impl_below_moebius.f k l0 a1 a2 = some r),
  Calls Try.prog 78 #[.slice A0 l0.length c0, .int .i64 a1, .int .i64 a2] w fun e w' => e = .returned (.int .i64 r) ∧ Drawn0 w w' := by
 induction k using Nat.strongRecOn with
 | _ k ih =>
 intro A0 c0 l0 a1 a2 r w hr0 hc0 h
 cases k with
 | zero => exact absurd h (by simp [impl_below_moebius.f])
 | succ k =>
 simp only [impl_below_moebius.f] at h
 have HR0 := Aside0.mk hr0
 have HC0 := Aside0.mk hc0
 clear hr0 hc0
 have H : (if a1 = a2 then (some 1) else (impl_below_moebius.l0 k l0 a1 a2 0 (l0.length : Int) 0)) = some r := h
 clear h
 by_cases c4 : a1 = a2
 ·rw [if_pos c4] at H
  have c4b0 : (a1 == a2) = true := beq_iff_eq.mpr c4
  have c4b1 : (a1 != a2) = false := bne_eq_false_iff_eq.mpr c4
  clear c4
  obtain rfl := Option.some.inj H
  go_enter Try.func78, Try.ntmps78
  go_wp2
  go_ret
  exact ⟨by first | rfl | (simp; done) | (simp [*]; done), by repeat (first | exact Drawn0.refl _ | apply Drawn0.step)⟩
 ·rw [if_neg c4] at H
  have c4b0 : (a1 == a2) = false := beq_eq_false_iff_ne.mpr c4
  have c4b1 : (a1 != a2) = true := bne_iff_ne.mpr c4
  have H' := Aside0.mk H
  clear H
  go_enter Try.func78, Try.ntmps78
  go_wp2
  go_loopg [7, 14] k (fun kq v7 v14 w' => ∃ (x7_1 : Int) (x14_1 : Int), v7 = .int .i64 x7_1 ∧ v14 = .int .i64 x14_1 ∧ Aside0 (impl_below_moebius.l0 kq l0 a1 a2 x7_1 (l0.length : Int) x14_1 = some r) ∧ Aside0 (kq ≤ k) ∧ Drawn0 w w')
  case atStart => exact ⟨(0), (0), (by first | rfl | (simp; done) | (simp [*]; done)), (by first | rfl | (simp; done) | (simp [*]; done)), H', ⟨Nat.le_refl _⟩, by repeat (first | exact Drawn0.refl _ | apply Drawn0.step)⟩
  case round =>
   clear H'
   (try clear p2);(try clear c4);(try clear c4b0);(try clear c4b1)
   obtain ⟨x7_1, x14_1, rfl, rfl, HA, HK1, ⟨m1, rfl⟩⟩ := hrel
   cases gk with
   | zero => exact absurd HA.out (by simp [impl_below_moebius.l0])
   | succ k1 =>
    have H := HA.out
    clear HA
    simp only [impl_below_moebius.l0] at H
    by_cases c5 : x14_1 < (l0.length : Int)
    ·rw [if_pos c5] at H
     have c5b0 : decide (x14_1 < (l0.length : Int)) = true := decide_eq_true c5
     clear c5
     by_cases c6 : x14_1 = a2
     ·rw [if_pos c6] at H
      have c6b0 : (x14_1 == a2) = true := beq_iff_eq.mpr c6
      have c6b1 : (x14_1 != a2) = false := bne_eq_false_iff_eq.mpr c6
      clear c6
      have H' := Aside0.mk H
      clear H
      go_wp2
      go_roundg k1
      case measure => have := HK1.out; omega
      case rel => exact ⟨(x7_1), (wrap64 (x14_1 + 1)), (by first | rfl | (simp; done) | (simp [*]; done)), (by first | rfl | (simp; done) | (simp [*]; done)), H', ⟨by have := HK1.out; omega⟩, by repeat (first | exact Drawn0.refl _ | apply Drawn0.step)⟩
     ·rw [if_neg c6] at H
      have c6b0 : (x14_1 == a2) = false := beq_eq_false_iff_ne.mpr c6
      have c6b1 : (x14_1 != a2) = true := bne_iff_ne.mpr c6
      by_cases c7 : 0 ≤ a1
      ·rw [if_pos c7] at H
       have c7b0 : decide (0 ≤ a1) = true := decide_eq_true c7
       clear c7
       by_cases c8 : a1 < (l0.length : Int)
       ·rw [if_pos c8] at H
        have c8b0 : decide (a1 < (l0.length : Int)) = true := decide_eq_true c8
        clear c8
        by_cases c9 : 0 ≤ x14_1
        ·rw [if_pos c9] at H
         have c9b0 : decide (0 ≤ x14_1) = true := decide_eq_true c9
         clear c9
         by_cases c10 : x14_1 < ((rd_ListBool l0 a1).length : Int)
         ·rw [if_pos c10] at H
          have c10b0 : decide (x14_1 < ((rd_ListBool l0 a1).length : Int)) = true := decide_eq_true c10
          clear c10
          obtain ⟨bq11, hbq11⟩ : ∃ b_ : Bool, b_ = (rdOf false (rd_ListBool l0 a1) x14_1) := ⟨_, rfl⟩
          replace H : (if bq11 = true then (if x14_1 < (l0.length : Int) then (if 0 ≤ a2 then (if a2 < ((rd_ListBool l0 x14_1).length : Int) then (if rdOf false (rd_ListBool l0 x14_1) a2 = true then ((impl_below_moebius.f k1 l0 a1 x14_1).bind fun t105 => (impl_below_moebius.l0 k1 l0 a1 a2 (wrap64 (x7_1 + t105)) (l0.length : Int) (wrap64 (x14_1 + 1)))) else (impl_below_moebius.l0 k1 l0 a1 a2 x7_1 (l0.length : Int) (wrap64 (x14_1 + 1)))) else (none)) else (none)) else (none)) else (impl_below_moebius.l0 k1 l0 a1 a2 x7_1 (l0.length : Int) (wrap64 (x14_1 + 1)))) = some r := by rw [← hbq11] at H; exact H
          have Nbq11 := Aside0.mk hbq11
          clear hbq11
          by_cases c12 : bq11 = true
          ·subst c12
           have H1 : (if x14_1 < (l0.length : Int) then (if 0 ≤ a2 then (if a2 < ((rd_ListBool l0 x14_1).length : Int) then (if rdOf false (rd_ListBool l0 x14_1) a2 = true then ((impl_below_moebius.f k1 l0 a1 x14_1).bind fun t105 => (impl_below_moebius.l0 k1 l0 a1 a2 (wrap64 (x7_1 + t105)) (l0.length : Int) (wrap64 (x14_1 + 1)))) else (impl_below_moebius.l0 k1 l0 a1 a2 x7_1 (l0.length : Int) (wrap64 (x14_1 + 1)))) else (none)) else (none)) else (none)) = some r := by rw [if_pos rfl] at H; exact H
           clear H
           have H := H1
           clear H1
           by_cases c13 : x14_1 < (l0.length : Int)
           ·rw [if_pos c13] at H
            have c13b0 : decide (x14_1 < (l0.length : Int)) = true := decide_eq_true c13
            clear c13
            by_cases c14 : 0 ≤ a2
            ·rw [if_pos c14] at H
             have c14b0 : decide (0 ≤ a2) = true := decide_eq_true c14
             clear c14
             by_cases c15 : a2 < ((rd_ListBool l0 x14_1).length : Int)
             ·rw [if_pos c15] at H
              have c15b0 : decide (a2 < ((rd_ListBool l0 x14_1).length : Int)) = true := decide_eq_true c15
              clear c15
              obtain ⟨bq16, hbq16⟩ : ∃ b_ : Bool, b_ = (rdOf false (rd_ListBool l0 x14_1) a2) := ⟨_, rfl⟩
              replace H : (if bq16 = true then ((impl_below_moebius.f k1 l0 a1 x14_1).bind fun t105 => (impl_below_moebius.l0 k1 l0 a1 a2 (wrap64 (x7_1 + t105)) (l0.length : Int) (wrap64 (x14_1 + 1)))) else (impl_below_moebius.l0 k1 l0 a1 a2 x7_1 (l0.length : Int) (wrap64 (x14_1 + 1)))) = some r := by rw [← hbq16] at H; exact H
              have Nbq16 := Aside0.mk hbq16
              clear hbq16
              by_cases c17 : bq16 = true
              ·subst c17
               have H1 : ((impl_below_moebius.f k1 l0 a1 x14_1).bind fun t105 => (impl_below_moebius.l0 k1 l0 a1 a2 (wrap64 (x7_1 + t105)) (l0.length : Int) (wrap64 (x14_1 + 1)))) = some r := by rw [if_pos rfl] at H; exact H
               clear H
               have H := H1
               clear H1
               replace H := Option.bind_eq_some_iff.mp H
               obtain ⟨t105, A180, H⟩ := H
               replace H : (impl_below_moebius.l0 k1 l0 a1 a2 (wrap64 (x7_1 + t105)) (l0.length : Int) (wrap64 (x14_1 + 1))) = some r := H
               have A18 := Aside0.mk A180
               clear A180
               have H' := Aside0.mk H
               clear H
               have p101 : 0 ≤ (a1 : Int) := of_decide_eq_true (by first | (with_reducible assumption) | assumption)
               have q101 : a1 < (l0.length : Int) := of_decide_eq_true (by first | (with_reducible assumption) | assumption)
               obtain ⟨ad101, A101_0, c101_0, e101, hx101_0, hl101_0, hi101_0⟩ := at_ListBool HR0.out a1 p101 q101
               cases e101
               have HR101_0 := Aside0.mk hi101_0
               have HC101_0 := Aside0.mk hl101_0
               clear hi101_0 hl101_0
               replace p101 := eq_true p101
               replace q101 := eq_true q101
               have p102 : 0 ≤ (x14_1 : Int) := of_decide_eq_true (by first | (with_reducible assumption) | assumption)
               have q102 : x14_1 < ((rd_ListBool l0 a1).length : Int) := of_decide_eq_true (by first | (with_reducible assumption) | assumption)
               obtain ⟨ad102, e102, hx102_0⟩ := Kd.at_bool HR101_0.out x14_1 p102 q102
               (try rw [← Nbq11.out] at hx102_0)
               (try rw [← Nbq16.out] at hx102_0)
               cases e102
               replace p102 := eq_true p102
               replace q102 := eq_true q102
               have p103 : 0 ≤ (x14_1 : Int) := of_decide_eq_true (by first | (with_reducible assumption) | assumption)
               have q103 : x14_1 < (l0.length : Int) := of_decide_eq_true (by first | (with_reducible assumption) | assumption)
               obtain ⟨ad103, A103_0, c103_0, e103, hx103_0, hl103_0, hi103_0⟩ := at_ListBool HR0.out x14_1 p103 q103
               obtain rfl : ad101 = ad103 := (by injection e103)
               have HR103_0 := Aside0.mk hi103_0
               have HC103_0 := Aside0.mk hl103_0
               clear hi103_0 hl103_0
               replace p103 := eq_true p103
               replace q103 := eq_true q103
               have p104 : 0 ≤ (a2 : Int) := of_decide_eq_true (by first | (with_reducible assumption) | assumption)
               have q104 : a2 < ((rd_ListBool l0 x14_1).length : Int) := of_decide_eq_true (by first | (with_reducible assumption) | assumption)
               obtain ⟨ad104, e104, hx104_0⟩ := Kd.at_bool HR103_0.out a2 p104 q104
               (try rw [← Nbq11.out] at hx104_0)
               (try rw [← Nbq16.out] at hx104_0)
               cases e104
               replace p104 := eq_true p104
               replace q104 := eq_true q104
               go_wp2_with (first | ((with_reducible refine gate_callee (f := 78) rfl ?_); refine goesL_ (some 42) rfl rfl Try.func78 (by kernel_rfl) rfl #[.slice (some ad101) l0.length c0, .int .i64 a1, .int .i64 x14_1] rfl (by (try simp only [List.map_toArray, List.map_cons, List.map_nil]); first | done | rfl | (simp only [List.length_drop, List.length_take]; rfl)) ?_; (with_reducible refine (ih k1 (by have := HK1.out; omega) _ _ l0 a1 x14_1 t105 _ ?side1 ?side2 A18.out).mono ?_); (case side1 => repeat (first | exact HR0.out | (with_reducible refine Kd.C_alloc ?_ _) | (with_reducible refine Kd.C_drewN ?_ _) | (with_reducible refine Kd.C_drew ?_))); (case side2 => exact HC0.out); rintro e w' ⟨rfl, ⟨nd, rfl⟩⟩; refine ⟨_, rfl, ?_⟩))
               go_roundg k1
               case measure => have := HK1.out; omega
               case rel => exact ⟨(wrap64 (x7_1 + t105)), (wrap64 (x14_1 + 1)), (by first | rfl | (simp; done) | (simp [*]; done)), (by first | rfl | (simp; done) | (simp [*]; done)), H', ⟨by have := HK1.out; omega⟩, by repeat (first | exact Drawn0.refl _ | apply Drawn0.step)⟩
              ·replace c17 := Bool.eq_false_iff.mpr c17
               subst c17
               have H1 : (impl_below_moebius.l0 k1 l0 a1 a2 x7_1 (l0.length : Int) (wrap64 (x14_1 + 1))) = some r := by rw [if_neg (show ¬ (false = true) by decide)] at H; exact H
               clear H
               have H := H1
               clear H1
               have H' := Aside0.mk H
               clear H
               have p101 : 0 ≤ (a1 : Int) := of_decide_eq_true (by first | (with_reducible assumption) | assumption)
               have q101 : a1 < (l0.length : Int) := of_decide_eq_true (by first | (with_reducible assumption) | assumption)
               obtain ⟨ad101, A101_0, c101_0, e101, hx101_0, hl101_0, hi101_0⟩ := at_ListBool HR0.out a1 p101 q101
               cases e101
               have HR101_0 := Aside0.mk hi101_0
               have HC101_0 := Aside0.mk hl101_0
               clear hi101_0 hl101_0
               replace p101 := eq_true p101
               replace q101 := eq_true q101
               have p102 : 0 ≤ (x14_1 : Int) := of_decide_eq_true (by first | (with_reducible assumption) | assumption)
               have q102 : x14_1 < ((rd_ListBool l0 a1).length : Int) := of_decide_eq_true (by first | (with_reducible assumption) | assumption)
               obtain ⟨ad102, e102, hx102_0⟩ := Kd.at_bool HR101_0.out x14_1 p102 q102
               (try rw [← Nbq11.out] at hx102_0)
               (try rw [← Nbq16.out] at hx102_0)
               cases e102
               replace p102 := eq_true p102
               replace q102 := eq_true q102
               have p103 : 0 ≤ (x14_1 : Int) := of_decide_eq_true (by first | (with_reducible assumption) | assumption)
               have q103 : x14_1 < (l0.length : Int) := of_decide_eq_true (by first | (with_reducible assumption) | assumption)
               obtain ⟨ad103, A103_0, c103_0, e103, hx103_0, hl103_0, hi103_0⟩ := at_ListBool HR0.out x14_1 p103 q103
               obtain rfl : ad101 = ad103 := (by injection e103)
               have HR103_0 := Aside0.mk hi103_0
               have HC103_0 := Aside0.mk hl103_0
               clear hi103_0 hl103_0
               replace p103 := eq_true p103
               replace q103 := eq_true q103
               have p104 : 0 ≤ (a2 : Int) := of_decide_eq_true (by first | (with_reducible assumption) | assumption)
               have q104 : a2 < ((rd_ListBool l0 x14_1).length : Int) := of_decide_eq_true (by first | (with_reducible assumption) | assumption)
               obtain ⟨ad104, e104, hx104_0⟩ := Kd.at_bool HR103_0.out a2 p104 q104
               (try rw [← Nbq11.out] at hx104_0)
               (try rw [← Nbq16.out] at hx104_0)
               cases e104
               replace p104 := eq_true p104
               replace q104 := eq_true q104
               go_wp2
               go_roundg k1
               case measure => have := HK1.out; omega
               case rel => exact ⟨(x7_1), (wrap64 (x14_1 + 1)), (by first | rfl | (simp; done) | (simp [*]; done)), (by first | rfl | (simp; done) | (simp [*]; done)), H', ⟨by have := HK1.out; omega⟩, by repeat (first | exact Drawn0.refl _ | apply Drawn0.step)⟩
             ·rw [if_neg c15] at H
              exact absurd H (by simp)
            ·rw [if_neg c14] at H
             exact absurd H (by simp)
           ·rw [if_neg c13] at H
            exact absurd H (by simp)
          ·replace c12 := Bool.eq_false_iff.mpr c12
           subst c12
           have H1 : (impl_below_moebius.l0 k1 l0 a1 a2 x7_1 (l0.length : Int) (wrap64 (x14_1 + 1))) = some r := by rw [if_neg (show ¬ (false = true) by decide)] at H; exact H
           clear H
           have H := H1
           clear H1
           have H' := Aside0.mk H
           clear H
           have p101 : 0 ≤ (a1 : Int) := of_decide_eq_true (by first | (with_reducible assumption) | assumption)
           have q101 : a1 < (l0.length : Int) := of_decide_eq_true (by first | (with_reducible assumption) | assumption)
           obtain ⟨ad101, A101_0, c101_0, e101, hx101_0, hl101_0, hi101_0⟩ := at_ListBool HR0.out a1 p101 q101
           cases e101
           have HR101_0 := Aside0.mk hi101_0
           have HC101_0 := Aside0.mk hl101_0
           clear hi101_0 hl101_0
           replace p101 := eq_true p101
           replace q101 := eq_true q101
           have p102 : 0 ≤ (x14_1 : Int) := of_decide_eq_true (by first | (with_reducible assumption) | assumption)
           have q102 : x14_1 < ((rd_ListBool l0 a1).length : Int) := of_decide_eq_true (by first | (with_reducible assumption) | assumption)
           obtain ⟨ad102, e102, hx102_0⟩ := Kd.at_bool HR101_0.out x14_1 p102 q102
           (try rw [← Nbq11.out] at hx102_0)
           cases e102
           replace p102 := eq_true p102
           replace q102 := eq_true q102
           go_wp2
           go_roundg k1
           case measure => have := HK1.out; omega
           case rel => exact ⟨(x7_1), (wrap64 (x14_1 + 1)), (by first | rfl | (simp; done) | (simp [*]; done)), (by first | rfl | (simp; done) | (simp [*]; done)), H', ⟨by have := HK1.out; omega⟩, by repeat (first | exact Drawn0.refl _ | apply Drawn0.step)⟩
         ·rw [if_neg c10] at H
          exact absurd H (by simp)
        ·rw [if_neg c9] at H
         exact absurd H (by simp)
       ·rw [if_neg c8] at H
        exact absurd H (by simp)
      ·rw [if_neg c7] at H
       exact absurd H (by simp)
    ·rw [if_neg c5] at H
     have c5b0 : decide (x14_1 < (l0.length : Int)) = false := decide_eq_false c5
     clear c5
     obtain rfl := Option.some.inj H
     go_wp2
     go_ret
     exact ⟨by first | rfl | (simp; done) | (simp [*]; done), by repeat (first | exact Drawn0.refl _ | apply Drawn0.step)⟩
end Go.Proofs.Ytnohkeijhfjbeaa.B
