/- Printed proofs of functions of the program and of the reference, by a program of this work over the kit's printer. -/
import Derived.Test.YtmnplhkimpeocaaKEGFBIK0
import Derived.Test.YtmnplhkimpeocaaKW0
namespace Go.Proofs.Ytmnplhkimpeocaa.B
open Go.RowKit Go.Proofs.YtmnplhkimpeocaaW.PrintWords Go.Proofs.YtmnplhkimpeocaaW.PrintLast Go.Proofs.YtmnplhkimpeocaaW.PrintMore
attribute [local go_sem] max2_int min2_int max_two min_two max_three min_three max_four min_four
set_option linter.unusedVariables false
set_option linter.unusedSimpArgs false
mutual
def z24.l0 : Nat → List (List Bool) → List (List Int) → Int → Option ((List (List Int)) × Bool)
 | 0, _, _, _ => none
 | k + 1, x0, x4, x5 => if x5 < (x0.length : Int) then (z24.l1 k x0 x4 x5 0) else (some (x4, true))
def z24.l1 : Nat → List (List Bool) → List (List Int) → Int → Int → Option ((List (List Int)) × Bool)
 | 0, _, _, _, _ => none
 | k + 1, x0, x4, x5, x6 => if x6 < (x0.length : Int) then (if x5 = x6 then (z24.j2 k x0 x4 x5 x6 true) else (if 0 ≤ x5 then (if x5 < (x0.length : Int) then (if 0 ≤ x6 then (if x6 < ((rd_ListBool x0 x5).length : Int) then (z24.j2 k x0 x4 x5 x6 (!(rdOf false (rd_ListBool x0 x5) x6))) else (none)) else (none)) else (none)) else (none))) else (z24.l0 k x0 x4 (wrap64 (x5 + 1)))
def z24.j2 : Nat → List (List Bool) → List (List Int) → Int → Int → Bool → Option ((List (List Int)) × Bool)
 | 0, _, _, _, _, _ => none
 | k + 1, x0, x4, x5, x6, x34 => if x34 = true then (z24.l1 k x0 x4 x5 (wrap64 (x6 + 1))) else (if 0 ≤ x6 then (if x6 < (x0.length : Int) then (if 0 ≤ x5 then (if x5 < ((rd_ListBool x0 x6).length : Int) then (if rdOf false (rd_ListBool x0 x6) x5 = true then (some (([] : List (List Int)), false)) else (z24.l2 k x0 x4 x5 x6 false 0)) else (none)) else (none)) else (none)) else (none))
def z24.l2 : Nat → List (List Bool) → List (List Int) → Int → Int → Bool → Int → Option ((List (List Int)) × Bool)
 | 0, _, _, _, _, _, _ => none
 | k + 1, x0, x4, x5, x6, x7, x8 => if x8 < (x0.length : Int) then (if x7 = true then (z24.l2 k x0 x4 x5 x6 true (wrap64 (x8 + 1))) else (if x8 = x5 then (z24.l2 k x0 x4 x5 x6 false (wrap64 (x8 + 1))) else (if x8 = x6 then (z24.l2 k x0 x4 x5 x6 false (wrap64 (x8 + 1))) else (if 0 ≤ x5 then (if x5 < (x0.length : Int) then (if 0 ≤ x8 then (if x8 < ((rd_ListBool x0 x5).length : Int) then (if rdOf false (rd_ListBool x0 x5) x8 = true then (if 0 ≤ x6 then (if x6 < ((rd_ListBool x0 x8).length : Int) then (z24.l2 k x0 x4 x5 x6 (rdOf false (rd_ListBool x0 x8) x6) (wrap64 (x8 + 1))) else (none)) else (none)) else (z24.l2 k x0 x4 x5 x6 false (wrap64 (x8 + 1)))) else (none)) else (none)) else (none)) else (none))))) else (if x7 = true then (z24.l1 k x0 x4 x5 (wrap64 (x6 + 1))) else (if x4.length < 5864062014805 then (z24.l1 k x0 (x4 ++ [(([x5, x6] : List Int))]) x5 (wrap64 (x6 + 1))) else (none)))
end
def z24.f (k : Nat) (l0 : List (List Bool)) : Option ((List (List Int)) × Bool) := z24.l0 k l0 (([] : List (List Int))) 0
set_option maxHeartbeats 8000000 in
set_option maxRecDepth 100000 in
theorem z24.calls (k : Nat) (A0 : Option Addr) (c0 : Nat) (l0 : List (List Bool)) (r1 : List (List Int)) (r2 : Bool) (w : World) (hr0 : Kd.C (Kd.slice 4 Kd.bool) w A0 l0.length l0) (hc0 : l0.length ≤ c0) (h : z24.f k l0 = some (r1, r2)) :
  Calls Try.prog 24 #[.slice A0 l0.length c0] w fun e w' => ∃ v0_ : Value, e = .returned (.tuple #[v0_, .bool r2]) ∧ Kd.S (Kd.slice 2 (Kd.int .i64)) 36 w' w.heap.size (fun _ => True) v0_ r1 ∧ Below w.heap.size w w' := by
 have HR0 := Aside0.mk hr0
 have HC0 := Aside0.mk hc0
 clear hr0 hc0
 have HB := Aside0.mk (Below.refl w.heap.size w)
 have H : (z24.l0 k l0 (([] : List (List Int))) 0) = some (r1, r2) := h
 clear h
 obtain ⟨y101, hy101⟩ : ∃ y_ : List (List Int), y_ = (([] : List (List Int))) := ⟨_, rfl⟩
 replace H : (z24.l0 k l0 y101 0) = some (r1, r2) := Y_ hy101 H
 have Ny101 := Aside0.mk hy101
 clear hy101
 have H' := Aside0.mk H
 clear H
 go_enter Try.func24, Try.ntmps24
 go_wp2_with (first | ((with_reducible refine gate_dst (N := 9) rfl ?_); refine Kd.S_lit (Kd.slice 2 (Kd.int .i64)) _ 36 ?hg (N := 9) ?hd (xs := ([] : List (List Int))) (inner := []) (ok := fun _ => True) (okp := fun _ => True) ?hr ?hp (fun _ hk => hk) trivial (Below.refl _ _) (Nat.le_refl _) (by simp) ?_; (case hd => rfl); (case hg => rfl); (case hr => first | (go_simp; done) | (go_simp; rfl)); (case hp => exact (Reps.none _ _)); intro v102 w2 ho3 hb hg_ hnew_; clear hg_ hnew_; (first | rw [← Ny101.out] at ho3 | (simp only [Int.reduceToNat] at ho3; rw [← Ny101.out] at ho3)); have HO103 := Aside0.mk (Kd.S_lower ho3 (below_size (B_ HB.out))); replace HB := Aside0.mk (below_step (B_ HB.out) hb); clear hb ho3))
 go_loopg [4, 5] k (fun kq v4 v5 w' => ∃ (x4_1 : List (List Int)) (x5_1 : Int), v5 = .int .i64 x5_1 ∧ Aside0 (z24.l0 kq l0 x4_1 x5_1 = some (r1, r2)) ∧ Aside0 (kq ≤ k) ∧ Aside0 (Kd.S (Kd.slice 2 (Kd.int .i64)) 36 w' w.heap.size (fun _ => True) v4 x4_1) ∧ Aside0 (Below w.heap.size w w'))
 case atStart => exact ⟨(y101), (0), E_, H', ⟨Nat.le_refl _⟩, ⟨KS_ HO103.out⟩, ⟨B_ HB.out⟩⟩
 case round =>
  clear H'
  (try clear c2);(try clear p2)
  obtain ⟨x4_1, x5_1, rfl, HA, HK1, HO_4, HB⟩ := hrel
  cases gk with
  | zero => exact absurd HA.out (by simp [z24.l0])
  | succ k1 =>
   have H := HA.out
   clear HA
   simp only [z24.l0] at H
   by_cases c4 : x5_1 < (l0.length : Int)
   ·rw [if_pos c4] at H
    have c4b0 : decide (x5_1 < (l0.length : Int)) = true := decide_eq_true c4
    clear c4
    have H' := Aside0.mk H
    clear H
    go_wp2
    go_loopg [4, 6] k1 (fun kq v4 v6 w' => ∃ (x4_2 : List (List Int)) (x6_2 : Int), v6 = .int .i64 x6_2 ∧ Aside0 (z24.l1 kq l0 x4_2 x5_1 x6_2 = some (r1, r2)) ∧ Aside0 (kq ≤ k1) ∧ Aside0 (Kd.S (Kd.slice 2 (Kd.int .i64)) 36 w' w.heap.size (fun _ => True) v4 x4_2) ∧ Aside0 (Below w.heap.size w w'))
    case atStart => exact ⟨(x4_1), (0), E_, H', ⟨Nat.le_refl _⟩, ⟨KS_ HO_4.out⟩, ⟨B_ HB.out⟩⟩
    case round =>
     clear H'
     (try clear c2);(try clear p2);(try clear c4);(try clear c4b0);(try clear p2)
     obtain ⟨x4_2, x6_2, rfl, HA, HK2, HO_4, HB⟩ := hrel
     cases gk with
     | zero => exact absurd HA.out (by simp [z24.l1])
     | succ k2 =>
      have H := HA.out
      clear HA
      simp only [z24.l1] at H
      by_cases c5 : x6_2 < (l0.length : Int)
      ·rw [if_pos c5] at H
       have c5b0 : decide (x6_2 < (l0.length : Int)) = true := decide_eq_true c5
       clear c5
       have HC6 := Aside0.mk H
       clear H
       go_upto_region 8 with (fail)
       go_cut [34] (fun v34 wc => ∃ (kq : Nat) (x34_5 : Bool), v34 = .bool x34_5 ∧ Aside0 (z24.j2 kq l0 x4_2 x5_1 x6_2 x34_5 = some (r1, r2)) ∧ Aside0 (kq ≤ k2) ∧ Aside0 (Kd.S (Kd.slice 2 (Kd.int .i64)) 36 wc w.heap.size (fun _ => True) u4 x4_2) ∧ Aside0 (Below w.heap.size w wc))
       case first =>
        have H := HC6.out
        clear HC6
        by_cases c7 : x5_1 = x6_2
        ·rw [if_pos c7] at H
         have c7b0 : (x5_1 == x6_2) = true := beq_iff_eq.mpr c7
         have c7b1 : (x5_1 != x6_2) = false := bne_eq_false_iff_eq.mpr c7
         clear c7
         (first | rw [c7b0] | (simp only [i64_w, i32_w]; rw [c7b0]) | skip)
         have H' := Aside0.mk H
         clear H
         go_wp2
         go_meet
         case rel => exact ⟨_, (true), E_, H', ⟨by have := HK1.out; have := HK2.out; first | omega | exact Nat.le_refl _⟩, ⟨KS_ HO_4.out⟩, ⟨B_ HB.out⟩⟩
        ·rw [if_neg c7] at H
         have c7b0 : (x5_1 == x6_2) = false := beq_eq_false_iff_ne.mpr c7
         have c7b1 : (x5_1 != x6_2) = true := bne_iff_ne.mpr c7
         (first | rw [c7b0] | (simp only [i64_w, i32_w]; rw [c7b0]) | skip)
         have c8 := O1_ H
         replace H := O2_ H
         have c8b0 := decide_eq_true c8
         clear c8
         have c9 := O1_ H
         replace H := O2_ H
         have c9b0 := decide_eq_true c9
         clear c9
         have c10 := O1_ H
         replace H := O2_ H
         have c10b0 := decide_eq_true c10
         clear c10
         have c11 := O1_ H
         replace H := O2_ H
         have c11b0 := decide_eq_true c11
         clear c11
         have H' := Aside0.mk H
         clear H
         have p104 : 0 ≤ (x5_1 : Int) := D_
         have q104 : x5_1 < (l0.length : Int) := D_
         obtain ⟨ad104, A104_0, c104_0, e104, hx104_0, hl104_0, hi104_0⟩ := at_ListBool HR0.out x5_1 p104 q104
         cases e104
         replace hx104_0 := (HB.out.cell (World.block_lt_of_cell? w _ hx104_0)).trans hx104_0
         have HR104_0 := Aside0.mk hi104_0
         have HC104_0 := Aside0.mk hl104_0
         clear hi104_0 hl104_0
         replace p104 := eq_true p104
         replace q104 := eq_true q104
         have p105 : 0 ≤ (x6_2 : Int) := D_
         have q105 : x6_2 < ((rd_ListBool l0 x5_1).length : Int) := D_
         obtain ⟨ad105, e105, hx105_0⟩ := Kd.at_bool HR104_0.out x6_2 p105 q105
         cases e105
         replace hx105_0 := (HB.out.cell (World.block_lt_of_cell? w _ hx105_0)).trans hx105_0
         replace p105 := eq_true p105
         replace q105 := eq_true q105
         go_wp2
         go_meet
         case rel => exact ⟨_, (!(rdOf false (rd_ListBool l0 x5_1) x6_2)), E_, H', ⟨by have := HK1.out; have := HK2.out; first | omega | exact Nat.le_refl _⟩, ⟨KS_ HO_4.out⟩, ⟨B_ HB.out⟩⟩
       case rest =>
        clear HC6
        (try clear c1);(try clear p1);(try clear q1);(try clear hx1);(try clear c2);(try clear p2);(try clear c4);(try clear c4b0);(try clear c5);(try clear c5b0);(try clear c7);(try clear c7b0);(try clear c7b1);(try clear c8);(try clear c8b0);(try clear c9);(try clear c9b0);(try clear c10);(try clear c10b0);(try clear p10);(try clear q10);(try clear hx10);(try clear c11);(try clear c11b0);(try clear hx104_0);(try clear hx105_0);(try clear p104);(try clear p105);(try clear p2);(try clear q104);(try clear q105)
        obtain ⟨kq, x34_5, rfl, HA, HJ5, HO_4, HB⟩ := hcut
        cases kq with
        | zero => exact absurd HA.out (by simp [z24.j2])
        | succ kj5 =>
         have H := HA.out
         clear HA
         simp only [z24.j2] at H
         by_cases c12 : x34_5 = true
         ·subst c12
          have H1 : (z24.l1 kj5 l0 x4_2 x5_1 (wrap64 (x6_2 + 1))) = some (r1, r2) := by rw [if_pos rfl] at H; exact H
          clear H
          have H := H1
          clear H1
          have H' := Aside0.mk H
          clear H
          go_wp2
          go_roundg kj5
          case measure => have := HK1.out; have := HK2.out; have := HJ5.out; omega
          case rel => exact ⟨(x4_2), (wrap64 (x6_2 + 1)), E_, H', ⟨by have := HK1.out; have := HK2.out; have := HJ5.out; omega⟩, ⟨KS_ HO_4.out⟩, ⟨B_ HB.out⟩⟩
         ·replace c12 := Bool.eq_false_iff.mpr c12
          subst c12
          have H1 : (if 0 ≤ x6_2 then (if x6_2 < (l0.length : Int) then (if 0 ≤ x5_1 then (if x5_1 < ((rd_ListBool l0 x6_2).length : Int) then (if rdOf false (rd_ListBool l0 x6_2) x5_1 = true then (some (([] : List (List Int)), false)) else (z24.l2 kj5 l0 x4_2 x5_1 x6_2 false 0)) else (none)) else (none)) else (none)) else (none)) = some (r1, r2) := by rw [if_neg (show ¬ (false = true) by decide)] at H; exact H
          clear H
          have H := H1
          clear H1
          have c13 := O1_ H
          replace H := O2_ H
          have c13b0 := decide_eq_true c13
          clear c13
          have c14 := O1_ H
          replace H := O2_ H
          have c14b0 := decide_eq_true c14
          clear c14
          have c15 := O1_ H
          replace H := O2_ H
          have c15b0 := decide_eq_true c15
          clear c15
          have c16 := O1_ H
          replace H := O2_ H
          have c16b0 := decide_eq_true c16
          clear c16
          obtain ⟨bq17, hbq17⟩ : ∃ b_ : Bool, b_ = (rdOf false (rd_ListBool l0 x6_2) x5_1) := ⟨_, rfl⟩
          replace H : (if bq17 = true then (some (([] : List (List Int)), false)) else (z24.l2 kj5 l0 x4_2 x5_1 x6_2 false 0)) = some (r1, r2) := by rw [← hbq17] at H; exact H
          have Nbq17 := Aside0.mk hbq17
          clear hbq17
          by_cases c18 : bq17 = true
          ·subst c18
           have H1 : (some (([] : List (List Int)), false)) = some (r1, r2) := by rw [if_pos rfl] at H; exact H
           clear H
           have H := H1
           clear H1
           simp only [Option.some.injEq, Prod.mk.injEq] at H
           obtain ⟨rfl, rfl⟩ := H
           have p106 : 0 ≤ (x6_2 : Int) := D_
           have q106 : x6_2 < (l0.length : Int) := D_
           obtain ⟨ad106, A106_0, c106_0, e106, hx106_0, hl106_0, hi106_0⟩ := at_ListBool HR0.out x6_2 p106 q106
           cases e106
           replace hx106_0 := (HB.out.cell (World.block_lt_of_cell? w _ hx106_0)).trans hx106_0
           have HR106_0 := Aside0.mk hi106_0
           have HC106_0 := Aside0.mk hl106_0
           clear hi106_0 hl106_0
           replace p106 := eq_true p106
           replace q106 := eq_true q106
           have p107 : 0 ≤ (x5_1 : Int) := D_
           have q107 : x5_1 < ((rd_ListBool l0 x6_2).length : Int) := D_
           obtain ⟨ad107, e107, hx107_0⟩ := Kd.at_bool HR106_0.out x5_1 p107 q107
           (try rw [← Nbq17.out] at hx107_0)
           cases e107
           replace hx107_0 := (HB.out.cell (World.block_lt_of_cell? w _ hx107_0)).trans hx107_0
           replace p107 := eq_true p107
           replace q107 := eq_true q107
           go_wp2
           go_ret2
           exact ⟨_, F_, by first | exact Kd.S_nil _ _ _ _ _ | exact Kd.N_nil _ _ _ _ _ | exact Kd.V_nil _ _ _ _ _ | exact Kd.Q_nil _ _ _ _ _ | exact Kd.R_nil _ _ _ _ _, B_ HB.out⟩
          ·replace c18 := Bool.eq_false_iff.mpr c18
           subst c18
           have H1 : (z24.l2 kj5 l0 x4_2 x5_1 x6_2 false 0) = some (r1, r2) := by rw [if_neg (show ¬ (false = true) by decide)] at H; exact H
           clear H
           have H := H1
           clear H1
           have H' := Aside0.mk H
           clear H
           have p106 : 0 ≤ (x6_2 : Int) := D_
           have q106 : x6_2 < (l0.length : Int) := D_
           obtain ⟨ad106, A106_0, c106_0, e106, hx106_0, hl106_0, hi106_0⟩ := at_ListBool HR0.out x6_2 p106 q106
           cases e106
           replace hx106_0 := (HB.out.cell (World.block_lt_of_cell? w _ hx106_0)).trans hx106_0
           have HR106_0 := Aside0.mk hi106_0
           have HC106_0 := Aside0.mk hl106_0
           clear hi106_0 hl106_0
           replace p106 := eq_true p106
           replace q106 := eq_true q106
           have p107 : 0 ≤ (x5_1 : Int) := D_
           have q107 : x5_1 < ((rd_ListBool l0 x6_2).length : Int) := D_
           obtain ⟨ad107, e107, hx107_0⟩ := Kd.at_bool HR106_0.out x5_1 p107 q107
           (try rw [← Nbq17.out] at hx107_0)
           cases e107
           replace hx107_0 := (HB.out.cell (World.block_lt_of_cell? w _ hx107_0)).trans hx107_0
           replace p107 := eq_true p107
           replace q107 := eq_true q107
           go_wp2
           go_loopg [7, 8] kj5 (fun kq v7 v8 w' => ∃ (x7_4 : Bool) (x8_4 : Int), v7 = .bool x7_4 ∧ v8 = .int .i64 x8_4 ∧ Aside0 (z24.l2 kq l0 x4_2 x5_1 x6_2 x7_4 x8_4 = some (r1, r2)) ∧ Aside0 (kq ≤ kj5) ∧ Aside0 (Kd.S (Kd.slice 2 (Kd.int .i64)) 36 w' w.heap.size (fun _ => True) u4 x4_2) ∧ Aside0 (Below w.heap.size w w'))
           case atStart => exact ⟨(false), (0), E_, E_, H', ⟨Nat.le_refl _⟩, ⟨KS_ HO_4.out⟩, ⟨B_ HB.out⟩⟩
           case round =>
            clear H'
            (try clear c1);(try clear p1);(try clear q1);(try clear hx1);(try clear c2);(try clear p2);(try clear c4);(try clear c4b0);(try clear c5);(try clear c5b0);(try clear p6);(try clear c7);(try clear c7b0);(try clear c7b1);(try clear c8);(try clear c8b0);(try clear c9);(try clear c9b0);(try clear c10);(try clear c10b0);(try clear p10);(try clear q10);(try clear hx10);(try clear c11);(try clear c11b0);(try clear c12);(try clear c13);(try clear c13b0);(try clear c14);(try clear c14b0);(try clear c15);(try clear c15b0);(try clear c16);(try clear c16b0);(try clear q17);(try clear c18);(try clear hx104_0);(try clear hx105_0);(try clear hx106_0);(try clear hx107_0);(try clear p1);(try clear p10);(try clear p104);(try clear p105);(try clear p106);(try clear p107);(try clear p2);(try clear q1);(try clear q10);(try clear q104);(try clear q105);(try clear q106);(try clear q107)
            obtain ⟨x7_4, x8_4, rfl, rfl, HA, HK4, HO_4, HB⟩ := hrel
            cases gk with
            | zero => exact absurd HA.out (by simp [z24.l2])
            | succ k4 =>
             have H := HA.out
             clear HA
             simp only [z24.l2] at H
             by_cases c19 : x8_4 < (l0.length : Int)
             ·rw [if_pos c19] at H
              have c19b0 : decide (x8_4 < (l0.length : Int)) = true := decide_eq_true c19
              clear c19
              by_cases c20 : x7_4 = true
              ·subst c20
               have H1 : (z24.l2 k4 l0 x4_2 x5_1 x6_2 true (wrap64 (x8_4 + 1))) = some (r1, r2) := by rw [if_pos rfl] at H; exact H
               clear H
               have H := H1
               clear H1
               have H' := Aside0.mk H
               clear H
               go_wp2
               go_roundg k4
               case measure => have := HK1.out; have := HK2.out; have := HJ5.out; have := HK4.out; omega
               case rel => exact ⟨(true), (wrap64 (x8_4 + 1)), E_, E_, H', ⟨by have := HK1.out; have := HK2.out; have := HJ5.out; have := HK4.out; omega⟩, ⟨KS_ HO_4.out⟩, ⟨B_ HB.out⟩⟩
              ·replace c20 := Bool.eq_false_iff.mpr c20
               subst c20
               have H1 : (if x8_4 = x5_1 then (z24.l2 k4 l0 x4_2 x5_1 x6_2 false (wrap64 (x8_4 + 1))) else (if x8_4 = x6_2 then (z24.l2 k4 l0 x4_2 x5_1 x6_2 false (wrap64 (x8_4 + 1))) else (if 0 ≤ x5_1 then (if x5_1 < (l0.length : Int) then (if 0 ≤ x8_4 then (if x8_4 < ((rd_ListBool l0 x5_1).length : Int) then (if rdOf false (rd_ListBool l0 x5_1) x8_4 = true then (if 0 ≤ x6_2 then (if x6_2 < ((rd_ListBool l0 x8_4).length : Int) then (z24.l2 k4 l0 x4_2 x5_1 x6_2 (rdOf false (rd_ListBool l0 x8_4) x6_2) (wrap64 (x8_4 + 1))) else (none)) else (none)) else (z24.l2 k4 l0 x4_2 x5_1 x6_2 false (wrap64 (x8_4 + 1)))) else (none)) else (none)) else (none)) else (none)))) = some (r1, r2) := by rw [if_neg (show ¬ (false = true) by decide)] at H; exact H
               clear H
               have H := H1
               clear H1
               by_cases c21 : x8_4 = x5_1
               ·rw [if_pos c21] at H
                have c21b0 : (x8_4 == x5_1) = true := beq_iff_eq.mpr c21
                have c21b1 : (x8_4 != x5_1) = false := bne_eq_false_iff_eq.mpr c21
                clear c21
                have H' := Aside0.mk H
                clear H
                go_wp2
                go_roundg k4
                case measure => have := HK1.out; have := HK2.out; have := HJ5.out; have := HK4.out; omega
                case rel => exact ⟨(false), (wrap64 (x8_4 + 1)), E_, E_, H', ⟨by have := HK1.out; have := HK2.out; have := HJ5.out; have := HK4.out; omega⟩, ⟨KS_ HO_4.out⟩, ⟨B_ HB.out⟩⟩
               ·rw [if_neg c21] at H
                have c21b0 : (x8_4 == x5_1) = false := beq_eq_false_iff_ne.mpr c21
                have c21b1 : (x8_4 != x5_1) = true := bne_iff_ne.mpr c21
                by_cases c22 : x8_4 = x6_2
                ·rw [if_pos c22] at H
                 have c22b0 : (x8_4 == x6_2) = true := beq_iff_eq.mpr c22
                 have c22b1 : (x8_4 != x6_2) = false := bne_eq_false_iff_eq.mpr c22
                 clear c22
                 have H' := Aside0.mk H
                 clear H
                 go_wp2
                 go_roundg k4
                 case measure => have := HK1.out; have := HK2.out; have := HJ5.out; have := HK4.out; omega
                 case rel => exact ⟨(false), (wrap64 (x8_4 + 1)), E_, E_, H', ⟨by have := HK1.out; have := HK2.out; have := HJ5.out; have := HK4.out; omega⟩, ⟨KS_ HO_4.out⟩, ⟨B_ HB.out⟩⟩
                ·rw [if_neg c22] at H
                 have c22b0 : (x8_4 == x6_2) = false := beq_eq_false_iff_ne.mpr c22
                 have c22b1 : (x8_4 != x6_2) = true := bne_iff_ne.mpr c22
                 have c23 := O1_ H
                 replace H := O2_ H
                 have c23b0 := decide_eq_true c23
                 clear c23
                 have c24 := O1_ H
                 replace H := O2_ H
                 have c24b0 := decide_eq_true c24
                 clear c24
                 have c25 := O1_ H
                 replace H := O2_ H
                 have c25b0 := decide_eq_true c25
                 clear c25
                 have c26 := O1_ H
                 replace H := O2_ H
                 have c26b0 := decide_eq_true c26
                 clear c26
                 obtain ⟨bq27, hbq27⟩ : ∃ b_ : Bool, b_ = (rdOf false (rd_ListBool l0 x5_1) x8_4) := ⟨_, rfl⟩
                 replace H : (if bq27 = true then (if 0 ≤ x6_2 then (if x6_2 < ((rd_ListBool l0 x8_4).length : Int) then (z24.l2 k4 l0 x4_2 x5_1 x6_2 (rdOf false (rd_ListBool l0 x8_4) x6_2) (wrap64 (x8_4 + 1))) else (none)) else (none)) else (z24.l2 k4 l0 x4_2 x5_1 x6_2 false (wrap64 (x8_4 + 1)))) = some (r1, r2) := by rw [← hbq27] at H; exact H
                 have Nbq27 := Aside0.mk hbq27
                 clear hbq27
                 by_cases c28 : bq27 = true
                 ·subst c28
                  have H1 : (if 0 ≤ x6_2 then (if x6_2 < ((rd_ListBool l0 x8_4).length : Int) then (z24.l2 k4 l0 x4_2 x5_1 x6_2 (rdOf false (rd_ListBool l0 x8_4) x6_2) (wrap64 (x8_4 + 1))) else (none)) else (none)) = some (r1, r2) := by rw [if_pos rfl] at H; exact H
                  clear H
                  have H := H1
                  clear H1
                  have c29 := O1_ H
                  replace H := O2_ H
                  have c29b0 := decide_eq_true c29
                  clear c29
                  have c30 := O1_ H
                  replace H := O2_ H
                  have c30b0 := decide_eq_true c30
                  clear c30
                  have H' := Aside0.mk H
                  clear H
                  have p108 : 0 ≤ (x5_1 : Int) := D_
                  have q108 : x5_1 < (l0.length : Int) := D_
                  obtain ⟨ad108, A108_0, c108_0, e108, hx108_0, hl108_0, hi108_0⟩ := at_ListBool HR0.out x5_1 p108 q108
                  obtain rfl : ad106 = ad108 := (by injection e108)
                  replace hx108_0 := (HB.out.cell (World.block_lt_of_cell? w _ hx108_0)).trans hx108_0
                  have HR108_0 := Aside0.mk hi108_0
                  have HC108_0 := Aside0.mk hl108_0
                  clear hi108_0 hl108_0
                  replace p108 := eq_true p108
                  replace q108 := eq_true q108
                  have p109 : 0 ≤ (x8_4 : Int) := D_
                  have q109 : x8_4 < ((rd_ListBool l0 x5_1).length : Int) := D_
                  obtain ⟨ad109, e109, hx109_0⟩ := Kd.at_bool HR108_0.out x8_4 p109 q109
                  (try rw [← Nbq17.out] at hx109_0)
                  (try rw [← Nbq27.out] at hx109_0)
                  cases e109
                  replace hx109_0 := (HB.out.cell (World.block_lt_of_cell? w _ hx109_0)).trans hx109_0
                  replace p109 := eq_true p109
                  replace q109 := eq_true q109
                  have p110 : 0 ≤ (x8_4 : Int) := D_
                  have q110 : x8_4 < (l0.length : Int) := D_
                  obtain ⟨ad110, A110_0, c110_0, e110, hx110_0, hl110_0, hi110_0⟩ := at_ListBool HR0.out x8_4 p110 q110
                  obtain rfl : ad106 = ad110 := (by injection e110)
                  replace hx110_0 := (HB.out.cell (World.block_lt_of_cell? w _ hx110_0)).trans hx110_0
                  have HR110_0 := Aside0.mk hi110_0
                  have HC110_0 := Aside0.mk hl110_0
                  clear hi110_0 hl110_0
                  replace p110 := eq_true p110
                  replace q110 := eq_true q110
                  have p111 : 0 ≤ (x6_2 : Int) := D_
                  have q111 : x6_2 < ((rd_ListBool l0 x8_4).length : Int) := D_
                  obtain ⟨ad111, e111, hx111_0⟩ := Kd.at_bool HR110_0.out x6_2 p111 q111
                  (try rw [← Nbq17.out] at hx111_0)
                  (try rw [← Nbq27.out] at hx111_0)
                  cases e111
                  replace hx111_0 := (HB.out.cell (World.block_lt_of_cell? w _ hx111_0)).trans hx111_0
                  replace p111 := eq_true p111
                  replace q111 := eq_true q111
                  go_wp2
                  go_roundg k4
                  case measure => have := HK1.out; have := HK2.out; have := HJ5.out; have := HK4.out; omega
                  case rel => exact ⟨(rdOf false (rd_ListBool l0 x8_4) x6_2), (wrap64 (x8_4 + 1)), E_, E_, H', ⟨by have := HK1.out; have := HK2.out; have := HJ5.out; have := HK4.out; omega⟩, ⟨KS_ HO_4.out⟩, ⟨B_ HB.out⟩⟩
                 ·replace c28 := Bool.eq_false_iff.mpr c28
                  subst c28
                  have H1 : (z24.l2 k4 l0 x4_2 x5_1 x6_2 false (wrap64 (x8_4 + 1))) = some (r1, r2) := by rw [if_neg (show ¬ (false = true) by decide)] at H; exact H
                  clear H
                  have H := H1
                  clear H1
                  have H' := Aside0.mk H
                  clear H
                  have p108 : 0 ≤ (x5_1 : Int) := D_
                  have q108 : x5_1 < (l0.length : Int) := D_
                  obtain ⟨ad108, A108_0, c108_0, e108, hx108_0, hl108_0, hi108_0⟩ := at_ListBool HR0.out x5_1 p108 q108
                  obtain rfl : ad106 = ad108 := (by injection e108)
                  replace hx108_0 := (HB.out.cell (World.block_lt_of_cell? w _ hx108_0)).trans hx108_0
                  have HR108_0 := Aside0.mk hi108_0
                  have HC108_0 := Aside0.mk hl108_0
                  clear hi108_0 hl108_0
                  replace p108 := eq_true p108
                  replace q108 := eq_true q108
                  have p109 : 0 ≤ (x8_4 : Int) := D_
                  have q109 : x8_4 < ((rd_ListBool l0 x5_1).length : Int) := D_
                  obtain ⟨ad109, e109, hx109_0⟩ := Kd.at_bool HR108_0.out x8_4 p109 q109
                  (try rw [← Nbq17.out] at hx109_0)
                  (try rw [← Nbq27.out] at hx109_0)
                  cases e109
                  replace hx109_0 := (HB.out.cell (World.block_lt_of_cell? w _ hx109_0)).trans hx109_0
                  replace p109 := eq_true p109
                  replace q109 := eq_true q109
                  go_wp2
                  go_roundg k4
                  case measure => have := HK1.out; have := HK2.out; have := HJ5.out; have := HK4.out; omega
                  case rel => exact ⟨(false), (wrap64 (x8_4 + 1)), E_, E_, H', ⟨by have := HK1.out; have := HK2.out; have := HJ5.out; have := HK4.out; omega⟩, ⟨KS_ HO_4.out⟩, ⟨B_ HB.out⟩⟩
             ·rw [if_neg c19] at H
              have c19b0 : decide (x8_4 < (l0.length : Int)) = false := decide_eq_false c19
              clear c19
              by_cases c31 : x7_4 = true
              ·subst c31
               have H1 : (z24.l1 k4 l0 x4_2 x5_1 (wrap64 (x6_2 + 1))) = some (r1, r2) := by rw [if_pos rfl] at H; exact H
               clear H
               have H := H1
               clear H1
               have H' := Aside0.mk H
               clear H
               go_wp2
               go_roundg k4
               case measure => have := HK1.out; have := HK2.out; have := HJ5.out; have := HK4.out; omega
               case rel => exact ⟨(x4_2), (wrap64 (x6_2 + 1)), E_, H', ⟨by have := HK1.out; have := HK2.out; have := HJ5.out; have := HK4.out; omega⟩, ⟨KS_ HO_4.out⟩, ⟨B_ HB.out⟩⟩
              ·replace c31 := Bool.eq_false_iff.mpr c31
               subst c31
               have H1 : (if x4_2.length < 5864062014805 then (z24.l1 k4 l0 (x4_2 ++ [(([x5_1, x6_2] : List Int))]) x5_1 (wrap64 (x6_2 + 1))) else (none)) = some (r1, r2) := by rw [if_neg (show ¬ (false = true) by decide)] at H; exact H
               clear H
               have H := H1
               clear H1
               obtain ⟨y112, hy112⟩ : ∃ y_ : List Int, y_ = (([x5_1, x6_2] : List Int)) := ⟨_, rfl⟩
               replace H : (if x4_2.length < 5864062014805 then (z24.l1 k4 l0 (x4_2 ++ [y112]) x5_1 (wrap64 (x6_2 + 1))) else (none)) = some (r1, r2) := Y_ hy112 H
               have Ny112 := Aside0.mk hy112
               clear hy112
               have c32 := O1_ H
               replace H := O2_ H
               have LMc32 := Aside0.mk c32
               clear c32
               obtain ⟨y115, hy115⟩ : ∃ y_ : List (List Int), y_ = (x4_2 ++ [y112]) := ⟨_, rfl⟩
               replace H : (z24.l1 k4 l0 y115 x5_1 (wrap64 (x6_2 + 1))) = some (r1, r2) := Y_ hy115 H
               have Ny115 := Aside0.mk hy115
               clear hy115
               have H' := Aside0.mk H
               clear H
               go_wp2_with (first | ((with_reducible refine gate_dst (N := 82) rfl ?_); refine Kd.R_lit (Kd.int .i64) _ 2 ?hg (N := 82) ?hd (xs := ([x5_1, x6_2] : List Int)) (inner := [.int .i64 x5_1, .int .i64 x6_2]) (ok := fun _ => True) (okp := fun _ => True) ?hr ?hp (fun _ hk => hk) trivial (Below.refl _ _) (Nat.le_refl _) (by simp) ?_; (case hd => rfl); (case hg => rfl); (case hr => first | (go_simp; done) | (go_simp; rfl)); (case hp => exact (Reps.one (show Kd.M (Kd.int .i64) _ _ _ x5_1 [.int .i64 x5_1] from rfl) (Reps.one (show Kd.M (Kd.int .i64) _ _ _ x6_2 [.int .i64 x6_2] from rfl) (Reps.none _ _)))); intro v113 w33 ho34 hb hg_ hnew_; clear hg_ hnew_; (first | rw [← Ny112.out] at ho34 | (simp only [Int.reduceToNat] at ho34; rw [← Ny112.out] at ho34)); replace HO_4 := Aside0.mk (Kd.S_elder' (KS_ HO_4.out) (Kd.R_base ho34) hb); have HO114 := Aside0.mk (Kd.R_lower ho34 (below_size (B_ HB.out))); replace HB := Aside0.mk (below_step (B_ HB.out) hb); clear hb ho34; obtain ⟨Ao36, co36, eo36⟩ := Kd.R_slice HO114.out; subst eo36) | ((with_reducible refine gate_builtin (b := .append) (xs := #[.tmp 79, .tmp 83]) rfl ?_); at_builtin; refine Kd.S_append (Kd.slice 2 (Kd.int .i64)) (w0 := w) w.heap.size rfl (.tmp 79) (.tmp 83) 22 36 (.slice none 0 0) 24 rfl Try.underlying22 info36 rfl (by decide) (by omega) u4 x4_2 y112 [.slice Ao36 y112.length co36] (fun _ => True) (fun k_ => some k_ = (.slice Ao36 y112.length co36 : Value).ownBlock) rfl rfl ?aP (fun k_ hk_ => ((Kd.R_mono (ok' := fun k_ => ((fun _ => True)) k_ ∧ some k_ ≠ (u4 : Value).ownBlock) (Kd.R_apart' (HO114.out) (Kd.S_typed HO_4.out) (by decide)) (fun k_ hk => ⟨trivial, hk.2⟩))).1 k_ hk_.symm) ?aF ?aO ?aB ?aS ?aL ?_; (case aP => exact Kd.M_row (Kd.R_mono (Kd.R_tight rfl (Kd.R_mono (ok' := fun k_ => ((fun _ => True)) k_ ∧ some k_ ≠ (u4 : Value).ownBlock) (Kd.R_apart' (HO114.out) (Kd.S_typed HO_4.out) (by decide)) (fun k_ hk => ⟨trivial, hk.2⟩))) (fun _ h_ => h_))); (case aB => exact (B_ HB.out)); (case aF => exact (fun _ _ => trivial)); (case aO => exact (by (with_reducible repeat (first | apply Kd.S_alloc | apply Kd.S_drewN | apply Kd.S_drew)); exact Kd.S_mono HO_4.out (fun k_ hk => ⟨trivial, fun e_ => hk.2 e_⟩))); (case aS => exact (below_size (B_ HB.out))); (case aL => have := LMc32.out; omega); intro v116 w35 ho hb hg hat; rw [← Ny115.out] at ho; replace HB := Aside0.mk (hb); have HO117 := Aside0.mk (ho); clear HO_4; clear HO114; clear ho hb hg hat))
               go_roundg k4
               case measure => have := HK1.out; have := HK2.out; have := HJ5.out; have := HK4.out; omega
               case rel => exact ⟨(y115), (wrap64 (x6_2 + 1)), E_, H', ⟨by have := HK1.out; have := HK2.out; have := HJ5.out; have := HK4.out; omega⟩, ⟨KS_ HO117.out⟩, ⟨B_ HB.out⟩⟩
      ·rw [if_neg c5] at H
       have c5b0 : decide (x6_2 < (l0.length : Int)) = false := decide_eq_false c5
       clear c5
       have H' := Aside0.mk H
       clear H
       go_wp2
       go_roundg k2
       case measure => exact Q2_ HK1 HK2
       case rel => exact ⟨(x4_2), (wrap64 (x5_1 + 1)), E_, H', ⟨Q2_ HK1 HK2⟩, ⟨KS_ HO_4.out⟩, ⟨B_ HB.out⟩⟩
   ·rw [if_neg c4] at H
    have c4b0 : decide (x5_1 < (l0.length : Int)) = false := decide_eq_false c4
    clear c4
    simp only [Option.some.injEq, Prod.mk.injEq] at H
    obtain ⟨rfl, rfl⟩ := H
    go_wp2
    go_ret2
    exact ⟨_, F_, KS_ HO_4.out, B_ HB.out⟩
end Go.Proofs.Ytmnplhkimpeocaa.B
