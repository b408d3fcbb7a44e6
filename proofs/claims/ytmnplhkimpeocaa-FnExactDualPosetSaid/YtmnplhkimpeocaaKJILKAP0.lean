/- Printed proofs of functions of the program and of the reference, by a program of this work over the kit's printer. -/
import Derived.Test.YtmnplhkimpeocaaKEGFBIK0
import Derived.Test.YtmnplhkimpeocaaKW0
namespace Go.Proofs.Ytmnplhkimpeocaa.B
open Go.RowKit Go.Proofs.YtmnplhkimpeocaaW.PrintWords Go.Proofs.YtmnplhkimpeocaaW.PrintLast Go.Proofs.YtmnplhkimpeocaaW.PrintMore
attribute [local go_sem] max2_int min2_int max_two min_two max_three min_three max_four min_four
set_option linter.unusedVariables false
set_option linter.unusedSimpArgs false
mutual
def z33.l0 : Nat → List (List Bool) → List (List Int) → Int → Int → Option ((List (List Int)))
 | 0, _, _, _, _ => none
 | k + 1, x0, x3, x9, x10 => if x10 < x9 then (z33.l1 k x0 x3 x10 x9 x10 (x0.length : Int) 0) else (some x3)
def z33.l1 : Nat → List (List Bool) → List (List Int) → Int → Int → Int → Int → Int → Option ((List (List Int)))
 | 0, _, _, _, _, _, _, _ => none
 | k + 1, x0, x3, x4, x9, x10, x14, x15 => if x15 < x14 then (z33.l2 k x0 x3 x4 x15 false x9 x10 x14 x15 (x0.length : Int) 0) else (z33.l0 k x0 x3 x9 (wrap64 (x10 + 1)))
def z33.l2 : Nat → List (List Bool) → List (List Int) → Int → Int → Bool → Int → Int → Int → Int → Int → Int → Option ((List (List Int)))
 | 0, _, _, _, _, _, _, _, _, _, _, _ => none
 | k + 1, x0, x3, x4, x5, x6, x9, x10, x14, x15, x19, x20 => if x20 < x19 then (if x6 = true then (z33.l2 k x0 x3 x4 x5 true x9 x10 x14 x15 x19 (wrap64 (x20 + 1))) else (if x20 = x4 then (z33.l2 k x0 x3 x4 x5 false x9 x10 x14 x15 x19 (wrap64 (x20 + 1))) else (if x20 = x5 then (z33.l2 k x0 x3 x4 x5 false x9 x10 x14 x15 x19 (wrap64 (x20 + 1))) else (if 0 ≤ x4 then (if x4 < (x0.length : Int) then (if 0 ≤ x20 then (if x20 < ((rd_ListBool x0 x4).length : Int) then (if rdOf false (rd_ListBool x0 x4) x20 = true then (if x20 < (x0.length : Int) then (if 0 ≤ x5 then (if x5 < ((rd_ListBool x0 x20).length : Int) then (z33.l2 k x0 x3 x4 x5 (rdOf false (rd_ListBool x0 x20) x5) x9 x10 x14 x15 x19 (wrap64 (x20 + 1))) else (none)) else (none)) else (none)) else (z33.l2 k x0 x3 x4 x5 false x9 x10 x14 x15 x19 (wrap64 (x20 + 1)))) else (none)) else (none)) else (none)) else (none))))) else (if x4 = x5 then (z33.l1 k x0 x3 x4 x9 x10 x14 (wrap64 (x15 + 1))) else (if 0 ≤ x4 then (if x4 < (x0.length : Int) then (if 0 ≤ x5 then (if x5 < ((rd_ListBool x0 x4).length : Int) then (if rdOf false (rd_ListBool x0 x4) x5 = true then (if x6 = true then (z33.l1 k x0 x3 x4 x9 x10 x14 (wrap64 (x15 + 1))) else (if x3.length < 5864062014805 then (z33.l1 k x0 (x3 ++ [(([x4, x5] : List Int))]) x4 x9 x10 x14 (wrap64 (x15 + 1))) else (none))) else (z33.l1 k x0 x3 x4 x9 x10 x14 (wrap64 (x15 + 1)))) else (none)) else (none)) else (none)) else (none)))
end
def z33.f (k : Nat) (l0 : List (List Bool)) : Option ((List (List Int))) := z33.l0 k l0 ([] : List (List Int)) (l0.length : Int) 0
set_option maxHeartbeats 8000000 in
set_option maxRecDepth 100000 in
theorem z33.calls (k : Nat) (A0 : Option Addr) (c0 : Nat) (l0 : List (List Bool)) (r : List (List Int)) (w : World) (hr0 : Kd.C (Kd.slice 4 Kd.bool) w A0 l0.length l0) (hc0 : l0.length ≤ c0) (h : z33.f k l0 = some r) :
  Calls Try.prog 33 #[.slice A0 l0.length c0] w fun e w' => ∃ v0_ : Value, e = .returned (v0_) ∧ Kd.S (Kd.slice 2 (Kd.int .i64)) 36 w' w.heap.size (fun _ => True) v0_ r ∧ Below w.heap.size w w' := by
 have HR0 := Aside0.mk hr0
 have HC0 := Aside0.mk hc0
 clear hr0 hc0
 have HB := Aside0.mk (Below.refl w.heap.size w)
 have H : (z33.l0 k l0 ([] : List (List Int)) (l0.length : Int) 0) = some r := h
 clear h
 have H' := Aside0.mk H
 clear H
 go_enter Try.func33, Try.ntmps33
 go_wp2
 go_loopg [3, 10] k (fun kq v3 v10 w' => ∃ (x3_1 : List (List Int)) (x10_1 : Int), v10 = .int .i64 x10_1 ∧ Aside0 (z33.l0 kq l0 x3_1 (l0.length : Int) x10_1 = some r) ∧ Aside0 (kq ≤ k) ∧ Aside0 (Kd.S (Kd.slice 2 (Kd.int .i64)) 36 w' w.heap.size (fun _ => True) v3 x3_1) ∧ Aside0 (Below w.heap.size w w'))
 case atStart => exact ⟨(([] : List (List Int))), (0), E_, H', ⟨Nat.le_refl _⟩, ⟨by first | exact Kd.S_nil _ _ _ _ _ | exact Kd.N_nil _ _ _ _ _ | exact Kd.V_nil _ _ _ _ _ | exact Kd.Q_nil _ _ _ _ _ | exact Kd.R_nil _ _ _ _ _⟩, ⟨B_ HB.out⟩⟩
 case round =>
  clear H'
  obtain ⟨x3_1, x10_1, rfl, HA, HK1, HO_3, HB⟩ := hrel
  cases gk with
  | zero => exact absurd HA.out (by simp [z33.l0])
  | succ k1 =>
   have H := HA.out
   clear HA
   simp only [z33.l0] at H
   by_cases c2 : x10_1 < (l0.length : Int)
   ·rw [if_pos c2] at H
    have c2b0 : decide (x10_1 < (l0.length : Int)) = true := decide_eq_true c2
    clear c2
    have H' := Aside0.mk H
    clear H
    go_wp2
    go_loopg [3, 15] k1 (fun kq v3 v15 w' => ∃ (x3_2 : List (List Int)) (x15_2 : Int), v15 = .int .i64 x15_2 ∧ Aside0 (z33.l1 kq l0 x3_2 x10_1 (l0.length : Int) x10_1 (l0.length : Int) x15_2 = some r) ∧ Aside0 (kq ≤ k1) ∧ Aside0 (Kd.S (Kd.slice 2 (Kd.int .i64)) 36 w' w.heap.size (fun _ => True) v3 x3_2) ∧ Aside0 (Below w.heap.size w w'))
    case atStart => exact ⟨(x3_1), (0), E_, H', ⟨Nat.le_refl _⟩, ⟨KS_ HO_3.out⟩, ⟨B_ HB.out⟩⟩
    case round =>
     clear H'
     (try clear c2);(try clear c2b0);(try clear p2)
     obtain ⟨x3_2, x15_2, rfl, HA, HK2, HO_3, HB⟩ := hrel
     cases gk with
     | zero => exact absurd HA.out (by simp [z33.l1])
     | succ k2 =>
      have H := HA.out
      clear HA
      simp only [z33.l1] at H
      by_cases c3 : x15_2 < (l0.length : Int)
      ·rw [if_pos c3] at H
       have c3b0 : decide (x15_2 < (l0.length : Int)) = true := decide_eq_true c3
       clear c3
       have H' := Aside0.mk H
       clear H
       go_wp2
       go_loopg [6, 20] k2 (fun kq v6 v20 w' => ∃ (x6_3 : Bool) (x20_3 : Int), v6 = .bool x6_3 ∧ v20 = .int .i64 x20_3 ∧ Aside0 (z33.l2 kq l0 x3_2 x10_1 x15_2 x6_3 (l0.length : Int) x10_1 (l0.length : Int) x15_2 (l0.length : Int) x20_3 = some r) ∧ Aside0 (kq ≤ k2) ∧ Aside0 (Kd.S (Kd.slice 2 (Kd.int .i64)) 36 w' w.heap.size (fun _ => True) u3 x3_2) ∧ Aside0 (Below w.heap.size w w'))
       case atStart => exact ⟨(false), (0), E_, E_, H', ⟨Nat.le_refl _⟩, ⟨KS_ HO_3.out⟩, ⟨B_ HB.out⟩⟩
       case round =>
        clear H'
        (try clear c2);(try clear c2b0);(try clear p2);(try clear c3);(try clear c3b0);(try clear p2)
        obtain ⟨x6_3, x20_3, rfl, rfl, HA, HK3, HO_3, HB⟩ := hrel
        cases gk with
        | zero => exact absurd HA.out (by simp [z33.l2])
        | succ k3 =>
         have H := HA.out
         clear HA
         simp only [z33.l2] at H
         by_cases c4 : x20_3 < (l0.length : Int)
         ·rw [if_pos c4] at H
          have c4b0 : decide (x20_3 < (l0.length : Int)) = true := decide_eq_true c4
          clear c4
          by_cases c5 : x6_3 = true
          ·subst c5
           replace H := T_ H
           have H' := Aside0.mk H
           clear H
           go_wp2
           go_roundg k3
           case measure => exact Q3_ HK1 HK2 HK3
           case rel => exact ⟨(true), (wrap64 (x20_3 + 1)), E_, E_, H', ⟨Q3_ HK1 HK2 HK3⟩, ⟨KS_ HO_3.out⟩, ⟨B_ HB.out⟩⟩
          ·replace c5 := Bool.eq_false_iff.mpr c5
           subst c5
           replace H := N_ H
           by_cases c6 : x20_3 = x10_1
           ·rw [if_pos c6] at H
            have c6b0 : (x20_3 == x10_1) = true := beq_iff_eq.mpr c6
            have c6b1 : (x20_3 != x10_1) = false := bne_eq_false_iff_eq.mpr c6
            clear c6
            have H' := Aside0.mk H
            clear H
            go_wp2
            go_roundg k3
            case measure => exact Q3_ HK1 HK2 HK3
            case rel => exact ⟨(false), (wrap64 (x20_3 + 1)), E_, E_, H', ⟨Q3_ HK1 HK2 HK3⟩, ⟨KS_ HO_3.out⟩, ⟨B_ HB.out⟩⟩
           ·rw [if_neg c6] at H
            have c6b0 : (x20_3 == x10_1) = false := beq_eq_false_iff_ne.mpr c6
            have c6b1 : (x20_3 != x10_1) = true := bne_iff_ne.mpr c6
            by_cases c7 : x20_3 = x15_2
            ·rw [if_pos c7] at H
             have c7b0 : (x20_3 == x15_2) = true := beq_iff_eq.mpr c7
             have c7b1 : (x20_3 != x15_2) = false := bne_eq_false_iff_eq.mpr c7
             clear c7
             have H' := Aside0.mk H
             clear H
             go_wp2
             go_roundg k3
             case measure => exact Q3_ HK1 HK2 HK3
             case rel => exact ⟨(false), (wrap64 (x20_3 + 1)), E_, E_, H', ⟨Q3_ HK1 HK2 HK3⟩, ⟨KS_ HO_3.out⟩, ⟨B_ HB.out⟩⟩
            ·rw [if_neg c7] at H
             have c7b0 : (x20_3 == x15_2) = false := beq_eq_false_iff_ne.mpr c7
             have c7b1 : (x20_3 != x15_2) = true := bne_iff_ne.mpr c7
             have c8 := O1_ H
             replace H := O2_ H
             have c8b0 := decide_eq_true c8
             clear c8
             have c9 := O1_ H
             replace H := O2_ H
             have c9b0 := decide_eq_true c9
             clear c9
             have c10 := O1_ H
             replace H := O2_ H
             have c10b0 := decide_eq_true c10
             clear c10
             have c11 := O1_ H
             replace H := O2_ H
             have c11b0 := decide_eq_true c11
             clear c11
             obtain ⟨bq12, hbq12⟩ : ∃ b_ : Bool, b_ = (rdOf false (rd_ListBool l0 x10_1) x20_3) := ⟨_, rfl⟩
             rw [← hbq12] at H
             have Nbq12 := Aside0.mk hbq12
             clear hbq12
             by_cases c13 : bq12 = true
             ·subst c13
              replace H := T_ H
              have c14 := O1_ H
              replace H := O2_ H
              have c14b0 := decide_eq_true c14
              clear c14
              have c15 := O1_ H
              replace H := O2_ H
              have c15b0 := decide_eq_true c15
              clear c15
              have c16 := O1_ H
              replace H := O2_ H
              have c16b0 := decide_eq_true c16
              clear c16
              have H' := Aside0.mk H
              clear H
              have p101 : 0 ≤ (x10_1 : Int) := D_
              have q101 : x10_1 < (l0.length : Int) := D_
              obtain ⟨ad101, A101_0, c101_0, e101, hx101_0, hl101_0, hi101_0⟩ := at_ListBool HR0.out x10_1 p101 q101
              cases e101
              replace hx101_0 := (HB.out.cell (World.block_lt_of_cell? w _ hx101_0)).trans hx101_0
              have HR101_0 := Aside0.mk hi101_0
              have HC101_0 := Aside0.mk hl101_0
              clear hi101_0 hl101_0
              replace p101 := eq_true p101
              replace q101 := eq_true q101
              have p102 : 0 ≤ (x20_3 : Int) := D_
              have q102 : x20_3 < ((rd_ListBool l0 x10_1).length : Int) := D_
              obtain ⟨ad102, e102, hx102_0⟩ := Kd.at_bool HR101_0.out x20_3 p102 q102
              (try rw [← Nbq12.out] at hx102_0)
              cases e102
              replace hx102_0 := (HB.out.cell (World.block_lt_of_cell? w _ hx102_0)).trans hx102_0
              replace p102 := eq_true p102
              replace q102 := eq_true q102
              have p103 : 0 ≤ (x20_3 : Int) := D_
              have q103 : x20_3 < (l0.length : Int) := D_
              obtain ⟨ad103, A103_0, c103_0, e103, hx103_0, hl103_0, hi103_0⟩ := at_ListBool HR0.out x20_3 p103 q103
              obtain rfl : ad101 = ad103 := (by injection e103)
              replace hx103_0 := (HB.out.cell (World.block_lt_of_cell? w _ hx103_0)).trans hx103_0
              have HR103_0 := Aside0.mk hi103_0
              have HC103_0 := Aside0.mk hl103_0
              clear hi103_0 hl103_0
              replace p103 := eq_true p103
              replace q103 := eq_true q103
              have p104 : 0 ≤ (x15_2 : Int) := D_
              have q104 : x15_2 < ((rd_ListBool l0 x20_3).length : Int) := D_
              obtain ⟨ad104, e104, hx104_0⟩ := Kd.at_bool HR103_0.out x15_2 p104 q104
              (try rw [← Nbq12.out] at hx104_0)
              cases e104
              replace hx104_0 := (HB.out.cell (World.block_lt_of_cell? w _ hx104_0)).trans hx104_0
              replace p104 := eq_true p104
              replace q104 := eq_true q104
              go_wp2
              go_roundg k3
              case measure => exact Q3_ HK1 HK2 HK3
              case rel => exact ⟨(rdOf false (rd_ListBool l0 x20_3) x15_2), (wrap64 (x20_3 + 1)), E_, E_, H', ⟨Q3_ HK1 HK2 HK3⟩, ⟨KS_ HO_3.out⟩, ⟨B_ HB.out⟩⟩
             ·replace c13 := Bool.eq_false_iff.mpr c13
              subst c13
              replace H := N_ H
              have H' := Aside0.mk H
              clear H
              have p101 : 0 ≤ (x10_1 : Int) := D_
              have q101 : x10_1 < (l0.length : Int) := D_
              obtain ⟨ad101, A101_0, c101_0, e101, hx101_0, hl101_0, hi101_0⟩ := at_ListBool HR0.out x10_1 p101 q101
              cases e101
              replace hx101_0 := (HB.out.cell (World.block_lt_of_cell? w _ hx101_0)).trans hx101_0
              have HR101_0 := Aside0.mk hi101_0
              have HC101_0 := Aside0.mk hl101_0
              clear hi101_0 hl101_0
              replace p101 := eq_true p101
              replace q101 := eq_true q101
              have p102 : 0 ≤ (x20_3 : Int) := D_
              have q102 : x20_3 < ((rd_ListBool l0 x10_1).length : Int) := D_
              obtain ⟨ad102, e102, hx102_0⟩ := Kd.at_bool HR101_0.out x20_3 p102 q102
              (try rw [← Nbq12.out] at hx102_0)
              cases e102
              replace hx102_0 := (HB.out.cell (World.block_lt_of_cell? w _ hx102_0)).trans hx102_0
              replace p102 := eq_true p102
              replace q102 := eq_true q102
              go_wp2
              go_roundg k3
              case measure => exact Q3_ HK1 HK2 HK3
              case rel => exact ⟨(false), (wrap64 (x20_3 + 1)), E_, E_, H', ⟨Q3_ HK1 HK2 HK3⟩, ⟨KS_ HO_3.out⟩, ⟨B_ HB.out⟩⟩
         ·rw [if_neg c4] at H
          have c4b0 : decide (x20_3 < (l0.length : Int)) = false := decide_eq_false c4
          clear c4
          by_cases c17 : x10_1 = x15_2
          ·rw [if_pos c17] at H
           have c17b0 : (x10_1 == x15_2) = true := beq_iff_eq.mpr c17
           have c17b1 : (x10_1 != x15_2) = false := bne_eq_false_iff_eq.mpr c17
           clear c17
           have H' := Aside0.mk H
           clear H
           go_wp2
           go_roundg k3
           case measure => exact Q3_ HK1 HK2 HK3
           case rel => exact ⟨(x3_2), (wrap64 (x15_2 + 1)), E_, H', ⟨Q3_ HK1 HK2 HK3⟩, ⟨KS_ HO_3.out⟩, ⟨B_ HB.out⟩⟩
          ·rw [if_neg c17] at H
           have c17b0 : (x10_1 == x15_2) = false := beq_eq_false_iff_ne.mpr c17
           have c17b1 : (x10_1 != x15_2) = true := bne_iff_ne.mpr c17
           have c18 := O1_ H
           replace H := O2_ H
           have c18b0 := decide_eq_true c18
           clear c18
           have c19 := O1_ H
           replace H := O2_ H
           have c19b0 := decide_eq_true c19
           clear c19
           have c20 := O1_ H
           replace H := O2_ H
           have c20b0 := decide_eq_true c20
           clear c20
           have c21 := O1_ H
           replace H := O2_ H
           have c21b0 := decide_eq_true c21
           clear c21
           obtain ⟨bq22, hbq22⟩ : ∃ b_ : Bool, b_ = (rdOf false (rd_ListBool l0 x10_1) x15_2) := ⟨_, rfl⟩
           rw [← hbq22] at H
           have Nbq22 := Aside0.mk hbq22
           clear hbq22
           by_cases c23 : bq22 = true
           ·subst c23
            replace H := T_ H
            by_cases c24 : x6_3 = true
            ·subst c24
             replace H := T_ H
             have H' := Aside0.mk H
             clear H
             have p105 : 0 ≤ (x10_1 : Int) := D_
             have q105 : x10_1 < (l0.length : Int) := D_
             obtain ⟨ad105, A105_0, c105_0, e105, hx105_0, hl105_0, hi105_0⟩ := at_ListBool HR0.out x10_1 p105 q105
             cases e105
             replace hx105_0 := (HB.out.cell (World.block_lt_of_cell? w _ hx105_0)).trans hx105_0
             have HR105_0 := Aside0.mk hi105_0
             have HC105_0 := Aside0.mk hl105_0
             clear hi105_0 hl105_0
             replace p105 := eq_true p105
             replace q105 := eq_true q105
             have p106 : 0 ≤ (x15_2 : Int) := D_
             have q106 : x15_2 < ((rd_ListBool l0 x10_1).length : Int) := D_
             obtain ⟨ad106, e106, hx106_0⟩ := Kd.at_bool HR105_0.out x15_2 p106 q106
             (try rw [← Nbq22.out] at hx106_0)
             cases e106
             replace hx106_0 := (HB.out.cell (World.block_lt_of_cell? w _ hx106_0)).trans hx106_0
             replace p106 := eq_true p106
             replace q106 := eq_true q106
             go_wp2
             go_roundg k3
             case measure => exact Q3_ HK1 HK2 HK3
             case rel => exact ⟨(x3_2), (wrap64 (x15_2 + 1)), E_, H', ⟨Q3_ HK1 HK2 HK3⟩, ⟨KS_ HO_3.out⟩, ⟨B_ HB.out⟩⟩
            ·replace c24 := Bool.eq_false_iff.mpr c24
             subst c24
             replace H := N_ H
             obtain ⟨y107, hy107⟩ : ∃ y_ : List Int, y_ = (([x10_1, x15_2] : List Int)) := ⟨_, rfl⟩
             replace H : (if x3_2.length < 5864062014805 then (z33.l1 k3 l0 (x3_2 ++ [y107]) x10_1 (l0.length : Int) x10_1 (l0.length : Int) (wrap64 (x15_2 + 1))) else (none)) = some r := Y_ hy107 H
             have Ny107 := Aside0.mk hy107
             clear hy107
             have c25 := O1_ H
             replace H := O2_ H
             have LMc25 := Aside0.mk c25
             clear c25
             obtain ⟨y110, hy110⟩ : ∃ y_ : List (List Int), y_ = (x3_2 ++ [y107]) := ⟨_, rfl⟩
             replace H : (z33.l1 k3 l0 y110 x10_1 (l0.length : Int) x10_1 (l0.length : Int) (wrap64 (x15_2 + 1))) = some r := Y_ hy110 H
             have Ny110 := Aside0.mk hy110
             clear hy110
             have H' := Aside0.mk H
             clear H
             have p105 : 0 ≤ (x10_1 : Int) := D_
             have q105 : x10_1 < (l0.length : Int) := D_
             obtain ⟨ad105, A105_0, c105_0, e105, hx105_0, hl105_0, hi105_0⟩ := at_ListBool HR0.out x10_1 p105 q105
             cases e105
             replace hx105_0 := (HB.out.cell (World.block_lt_of_cell? w _ hx105_0)).trans hx105_0
             have HR105_0 := Aside0.mk hi105_0
             have HC105_0 := Aside0.mk hl105_0
             clear hi105_0 hl105_0
             replace p105 := eq_true p105
             replace q105 := eq_true q105
             have p106 : 0 ≤ (x15_2 : Int) := D_
             have q106 : x15_2 < ((rd_ListBool l0 x10_1).length : Int) := D_
             obtain ⟨ad106, e106, hx106_0⟩ := Kd.at_bool HR105_0.out x15_2 p106 q106
             (try rw [← Nbq22.out] at hx106_0)
             cases e106
             replace hx106_0 := (HB.out.cell (World.block_lt_of_cell? w _ hx106_0)).trans hx106_0
             replace p106 := eq_true p106
             replace q106 := eq_true q106
             go_wp2_with (first | ((with_reducible refine gate_dst (N := 72) rfl ?_); refine Kd.R_lit (Kd.int .i64) _ 2 ?hg (N := 72) ?hd (xs := ([x10_1, x15_2] : List Int)) (inner := [.int .i64 x10_1, .int .i64 x15_2]) (ok := fun _ => True) (okp := fun _ => True) ?hr ?hp (fun _ hk => hk) trivial (Below.refl _ _) (Nat.le_refl _) (by simp) ?_; (case hd => rfl); (case hg => rfl); (case hr => first | (go_simp; done) | (go_simp; rfl)); (case hp => exact (Reps.one (show Kd.M (Kd.int .i64) _ _ _ x10_1 [.int .i64 x10_1] from rfl) (Reps.one (show Kd.M (Kd.int .i64) _ _ _ x15_2 [.int .i64 x15_2] from rfl) (Reps.none _ _)))); intro v108 w26 ho27 hb hg_ hnew_; clear hg_ hnew_; (first | rw [← Ny107.out] at ho27 | (simp only [Int.reduceToNat] at ho27; rw [← Ny107.out] at ho27)); replace HO_3 := Aside0.mk (Kd.S_elder' (KS_ HO_3.out) (Kd.R_base ho27) hb); have HO109 := Aside0.mk (Kd.R_lower ho27 (below_size (B_ HB.out))); replace HB := Aside0.mk (below_step (B_ HB.out) hb); clear hb ho27; obtain ⟨Ao29, co29, eo29⟩ := Kd.R_slice HO109.out; subst eo29) | ((with_reducible refine gate_builtin (b := .append) (xs := #[.tmp 69, .tmp 73]) rfl ?_); at_builtin; refine Kd.S_append (Kd.slice 2 (Kd.int .i64)) (w0 := w) w.heap.size rfl (.tmp 69) (.tmp 73) 22 36 (.slice none 0 0) 24 rfl Try.underlying22 info36 rfl (by decide) (by omega) u3 x3_2 y107 [.slice Ao29 y107.length co29] (fun _ => True) (fun k_ => some k_ = (.slice Ao29 y107.length co29 : Value).ownBlock) rfl rfl ?aP (fun k_ hk_ => ((Kd.R_mono (ok' := fun k_ => ((fun _ => True)) k_ ∧ some k_ ≠ (u3 : Value).ownBlock) (Kd.R_apart' (HO109.out) (Kd.S_typed HO_3.out) (by decide)) (fun k_ hk => ⟨trivial, hk.2⟩))).1 k_ hk_.symm) ?aF ?aO ?aB ?aS ?aL ?_; (case aP => exact Kd.M_row (Kd.R_mono (Kd.R_tight rfl (Kd.R_mono (ok' := fun k_ => ((fun _ => True)) k_ ∧ some k_ ≠ (u3 : Value).ownBlock) (Kd.R_apart' (HO109.out) (Kd.S_typed HO_3.out) (by decide)) (fun k_ hk => ⟨trivial, hk.2⟩))) (fun _ h_ => h_))); (case aB => exact (B_ HB.out)); (case aF => exact (fun _ _ => trivial)); (case aO => exact (by (with_reducible repeat (first | apply Kd.S_alloc | apply Kd.S_drewN | apply Kd.S_drew)); exact Kd.S_mono HO_3.out (fun k_ hk => ⟨trivial, fun e_ => hk.2 e_⟩))); (case aS => exact (below_size (B_ HB.out))); (case aL => have := LMc25.out; omega); intro v111 w28 ho hb hg hat; rw [← Ny110.out] at ho; replace HB := Aside0.mk (hb); have HO112 := Aside0.mk (ho); clear HO_3; clear HO109; clear ho hb hg hat))
             go_roundg k3
             case measure => exact Q3_ HK1 HK2 HK3
             case rel => exact ⟨(y110), (wrap64 (x15_2 + 1)), E_, H', ⟨Q3_ HK1 HK2 HK3⟩, ⟨KS_ HO112.out⟩, ⟨B_ HB.out⟩⟩
           ·replace c23 := Bool.eq_false_iff.mpr c23
            subst c23
            replace H := N_ H
            have H' := Aside0.mk H
            clear H
            have p105 : 0 ≤ (x10_1 : Int) := D_
            have q105 : x10_1 < (l0.length : Int) := D_
            obtain ⟨ad105, A105_0, c105_0, e105, hx105_0, hl105_0, hi105_0⟩ := at_ListBool HR0.out x10_1 p105 q105
            cases e105
            replace hx105_0 := (HB.out.cell (World.block_lt_of_cell? w _ hx105_0)).trans hx105_0
            have HR105_0 := Aside0.mk hi105_0
            have HC105_0 := Aside0.mk hl105_0
            clear hi105_0 hl105_0
            replace p105 := eq_true p105
            replace q105 := eq_true q105
            have p106 : 0 ≤ (x15_2 : Int) := D_
            have q106 : x15_2 < ((rd_ListBool l0 x10_1).length : Int) := D_
            obtain ⟨ad106, e106, hx106_0⟩ := Kd.at_bool HR105_0.out x15_2 p106 q106
            (try rw [← Nbq22.out] at hx106_0)
            cases e106
            replace hx106_0 := (HB.out.cell (World.block_lt_of_cell? w _ hx106_0)).trans hx106_0
            replace p106 := eq_true p106
            replace q106 := eq_true q106
            go_wp2
            go_roundg k3
            case measure => exact Q3_ HK1 HK2 HK3
            case rel => exact ⟨(x3_2), (wrap64 (x15_2 + 1)), E_, H', ⟨Q3_ HK1 HK2 HK3⟩, ⟨KS_ HO_3.out⟩, ⟨B_ HB.out⟩⟩
      ·rw [if_neg c3] at H
       have c3b0 : decide (x15_2 < (l0.length : Int)) = false := decide_eq_false c3
       clear c3
       have H' := Aside0.mk H
       clear H
       go_wp2
       go_roundg k2
       case measure => exact Q2_ HK1 HK2
       case rel => exact ⟨(x3_2), (wrap64 (x10_1 + 1)), E_, H', ⟨Q2_ HK1 HK2⟩, ⟨KS_ HO_3.out⟩, ⟨B_ HB.out⟩⟩
   ·rw [if_neg c2] at H
    have c2b0 : decide (x10_1 < (l0.length : Int)) = false := decide_eq_false c2
    clear c2
    obtain rfl := Option.some.inj H
    go_wp2
    go_ret
    exact ⟨_, F_, KS_ HO_3.out, B_ HB.out⟩
end Go.Proofs.Ytmnplhkimpeocaa.B
