/- Printed proofs of functions of the program and of the reference, by a program of this work over the kit's printer. -/
import Derived.Test.YtnohkeijhfjbeaaKGPBBGI0
import Derived.Test.YtnohkeijhfjbeaaKW0
namespace Go.Proofs.Ytnohkeijhfjbeaa.B
open Go.RowKit Go.Proofs.YtnohkeijhfjbeaaW.PrintWords Go.Proofs.YtnohkeijhfjbeaaW.PrintLast Go.Proofs.YtnohkeijhfjbeaaW.PrintMore
attribute [local go_sem] max2_int min2_int max_two min_two max_three min_three max_four min_four
set_option linter.unusedVariables false
set_option linter.unusedSimpArgs false
def z94.l0 : Nat → List Int → Int → Int → Option (Bool)
 | 0, _, _, _ => none
 | k + 1, x0, x1, x5 => if x5 < (x0.length : Int) then (if 0 ≤ x5 then (if (rd x0 x5) = x1 then (some true) else (z94.l0 k x0 x1 (wrap64 (x5 + 1)))) else (none)) else (some false)
def z94.f (k : Nat) (l0 : List Int) (a1 : Int) : Option (Bool) := z94.l0 k l0 a1 0
set_option maxHeartbeats 8000000 in
set_option maxRecDepth 100000 in
theorem z94.calls (k : Nat) (A0 : Option Addr) (c0 : Nat) (l0 : List Int) (a1 : Int) (r : Bool) (w : World) (hr0 : Kd.C (Kd.int .i64) w A0 l0.length l0) (hc0 : l0.length ≤ c0) (h : z94.f k l0 a1 = some r) :
  Calls Try.prog 94 #[.slice A0 l0.length c0, .int .i64 a1] w fun e w' => e = .returned (.bool r) ∧ Drawn0 w w' := by
 have HR0 := Aside0.mk hr0
 have HC0 := Aside0.mk hc0
 clear hr0 hc0
 have H : (z94.l0 k l0 a1 0) = some r := h
 clear h
 have H' := Aside0.mk H
 clear H
 go_enter Try.func94, Try.ntmps94
 go_wp2
 go_loopg [5] k (fun kq v5 w' => ∃ (x5_1 : Int), v5 = .int .i64 x5_1 ∧ Aside0 (z94.l0 kq l0 a1 x5_1 = some r) ∧ Aside0 (kq ≤ k) ∧ Drawn0 w w')
 case atStart => exact ⟨(0), E_, H', ⟨Nat.le_refl _⟩, by repeat (first | exact Drawn0.refl _ | apply Drawn0.step)⟩
 case round =>
  clear H'
  (try clear p2)
  obtain ⟨x5_1, rfl, HA, HK1, ⟨m1, rfl⟩⟩ := hrel
  cases gk with
  | zero => exact absurd HA.out (by simp [z94.l0])
  | succ k1 =>
   have H := HA.out
   clear HA
   simp only [z94.l0] at H
   by_cases c3 : x5_1 < (l0.length : Int)
   ·rw [if_pos c3] at H
    have c3b0 : decide (x5_1 < (l0.length : Int)) = true := decide_eq_true c3
    clear c3
    have c4 := O1_ H
    replace H := O2_ H
    have c4b0 := decide_eq_true c4
    clear c4
    by_cases c5 : (rd l0 x5_1) = a1
    ·rw [if_pos c5] at H
     have c5b0 : ((rd l0 x5_1) == a1) = true := beq_iff_eq.mpr c5
     have c5b1 : ((rd l0 x5_1) != a1) = false := bne_eq_false_iff_eq.mpr c5
     clear c5
     obtain rfl := Option.some.inj H
     have p101 : 0 ≤ (x5_1 : Int) := D_
     have q101 : x5_1 < (l0.length : Int) := D_
     obtain ⟨ad101, e101, hx101_0⟩ := Kd.at_int HR0.out x5_1 p101 q101
     cases e101
     replace p101 := eq_true p101
     replace q101 := eq_true q101
     go_wp2
     go_ret
     exact ⟨by first | rfl | (simp; done) | (simp [*]; done), by repeat (first | exact Drawn0.refl _ | apply Drawn0.step)⟩
    ·rw [if_neg c5] at H
     have c5b0 : ((rd l0 x5_1) == a1) = false := beq_eq_false_iff_ne.mpr c5
     have c5b1 : ((rd l0 x5_1) != a1) = true := bne_iff_ne.mpr c5
     have H' := Aside0.mk H
     clear H
     have p101 : 0 ≤ (x5_1 : Int) := D_
     have q101 : x5_1 < (l0.length : Int) := D_
     obtain ⟨ad101, e101, hx101_0⟩ := Kd.at_int HR0.out x5_1 p101 q101
     cases e101
     replace p101 := eq_true p101
     replace q101 := eq_true q101
     go_wp2
     go_roundg k1
     case measure => exact Q1_ HK1
     case rel => exact ⟨(wrap64 (x5_1 + 1)), E_, H', ⟨Q1_ HK1⟩, by repeat (first | exact Drawn0.refl _ | apply Drawn0.step)⟩
   ·rw [if_neg c3] at H
    have c3b0 : decide (x5_1 < (l0.length : Int)) = false := decide_eq_false c3
    clear c3
    obtain rfl := Option.some.inj H
    go_wp2
    go_ret
    exact ⟨by first | rfl | (simp; done) | (simp [*]; done), by repeat (first | exact Drawn0.refl _ | apply Drawn0.step)⟩
mutual
def z77.l0 : Nat → List (List Bool) → List Int → Option (List Int)
 | 0, _, _ => none
 | k + 1, x0, x3 => if (x3.length : Int) < (x0.length : Int) then (z77.l1 k x0 x3 0) else (some x3)
def z77.l1 : Nat → List (List Bool) → List Int → Int → Option (List Int)
 | 0, _, _, _ => none
 | k + 1, x0, x3, x4 => if x4 < (x0.length : Int) then ((z94.f k x3 x4).bind fun t104 => (z77.l2 k x0 x3 x4 (!t104) 0)) else (z77.l0 k x0 x3)
def z77.l2 : Nat → List (List Bool) → List Int → Int → Bool → Int → Option (List Int)
 | 0, _, _, _, _, _ => none
 | k + 1, x0, x3, x4, x5, x6 => if x6 < (x0.length : Int) then (if x5 = true then (if x6 = x4 then (z77.l2 k x0 x3 x4 true (wrap64 (x6 + 1))) else (if 0 ≤ x6 then (if 0 ≤ x4 then (if x4 < ((rd_ListBool x0 x6).length : Int) then (if (rdOf false (rd_ListBool x0 x6) x4 = true) then ((z94.f k x3 x6).bind fun t107 => (z77.l2 k x0 x3 x4 t107 (wrap64 (x6 + 1)))) else (z77.l2 k x0 x3 x4 true (wrap64 (x6 + 1)))) else (none)) else (none)) else (none))) else (z77.l1 k x0 x3 (wrap64 (x4 + 1)))) else (if x5 = true then (if x3.length < 17592186044416 then (z77.l0 k x0 (x3 ++ [x4])) else (none)) else (z77.l1 k x0 x3 (wrap64 (x4 + 1))))
end
def z77.f (k : Nat) (l0 : List (List Bool)) : Option (List Int) := z77.l0 k l0 (([] : List Int))
set_option maxHeartbeats 8000000 in
set_option maxRecDepth 100000 in
theorem z77.calls (k : Nat) (A0 : Option Addr) (c0 : Nat) (l0 : List (List Bool)) (r : List Int) (w : World) (hr0 : Kd.C (Kd.slice 4 Kd.bool) w A0 l0.length l0) (hc0 : l0.length ≤ c0) (h : z77.f k l0 = some r) :
  Calls Try.prog 77 #[.slice A0 l0.length c0] w fun e w' => ∃ v0_ : Value, e = .returned (v0_) ∧ Kd.R (Kd.int .i64) 2 w' w.heap.size (fun _ => True) v0_ r ∧ Below w.heap.size w w' := by
 have HR0 := Aside0.mk hr0
 have HC0 := Aside0.mk hc0
 clear hr0 hc0
 have HB := Aside0.mk (Below.refl w.heap.size w)
 have H : (z77.l0 k l0 (([] : List Int))) = some r := h
 clear h
 obtain ⟨y101, hy101⟩ : ∃ y_ : List Int, y_ = (([] : List Int)) := ⟨_, rfl⟩
 replace H : (z77.l0 k l0 y101) = some r := Y_ hy101 H
 have Ny101 := Aside0.mk hy101
 clear hy101
 have H' := Aside0.mk H
 clear H
 go_enter Try.func77, Try.ntmps77
 go_wp2_with (first | ((with_reducible refine gate_dst (N := 7) rfl ?_); refine Kd.R_lit (Kd.int .i64) _ 2 ?hg (N := 7) ?hd (xs := ([] : List Int)) (inner := []) (ok := fun _ => True) (okp := fun _ => True) ?hr ?hp (fun _ hk => hk) trivial (Below.refl _ _) (Nat.le_refl _) (by simp) ?_; (case hd => rfl); (case hg => rfl); (case hr => first | (go_simp; done) | (go_simp; rfl)); (case hp => exact (Reps.none _ _)); intro v102 w2 ho3 hb hg_ hnew_; clear hg_ hnew_; (first | rw [← Ny101.out] at ho3 | (simp only [Int.reduceToNat] at ho3; rw [← Ny101.out] at ho3)); have HO103 := Aside0.mk (Kd.R_lower ho3 (below_size (B_ HB.out))); replace HB := Aside0.mk (below_step (B_ HB.out) hb); clear hb ho3))
 go_loopg [3] k (fun kq v3 w' => ∃ (x3_1 : List Int), Aside0 (z77.l0 kq l0 x3_1 = some r) ∧ Aside0 (kq ≤ k) ∧ Aside0 (Kd.R (Kd.int .i64) 2 w' w.heap.size (fun _ => True) v3 x3_1) ∧ Aside0 (Below w.heap.size w w'))
 case atStart => exact ⟨(y101), H', ⟨Nat.le_refl _⟩, ⟨KR_ HO103.out⟩, ⟨B_ HB.out⟩⟩
 case round =>
  clear H'
  (try clear p2)
  obtain ⟨x3_1, HA, HK1, HO_3, HB⟩ := hrel
  cases gk with
  | zero => exact absurd HA.out (by simp [z77.l0])
  | succ k1 =>
   have H := HA.out
   clear HA
   simp only [z77.l0] at H
   by_cases c4 : (x3_1.length : Int) < (l0.length : Int)
   ·rw [if_pos c4] at H
    have c4b0 : decide ((x3_1.length : Int) < (l0.length : Int)) = true := decide_eq_true c4
    have c4b1 : decide (x3_1.length < l0.length) = true := decide_eq_true (Int.ofNat_lt.mp c4)
    clear c4
    have H' := Aside0.mk H
    clear H
    obtain ⟨Ao5, co5, eo5⟩ := Kd.R_slice HO_3.out
    subst eo5
    go_wp2
    go_loopg [3, 4] k1 (fun kq v3 v4 w' => ∃ (x3_2 : List Int) (x4_2 : Int), v4 = .int .i64 x4_2 ∧ Aside0 (z77.l1 kq l0 x3_2 x4_2 = some r) ∧ Aside0 (kq ≤ k1) ∧ Aside0 (Kd.R (Kd.int .i64) 2 w' w.heap.size (fun _ => True) v3 x3_2) ∧ Aside0 (Below w.heap.size w w'))
    case atStart => exact ⟨(x3_1), (0), E_, H', ⟨Nat.le_refl _⟩, ⟨KR_ HO_3.out⟩, ⟨B_ HB.out⟩⟩
    case round =>
     clear H'
     (try clear p2);(try clear c4);(try clear c4b0);(try clear c4b1);(try clear p2)
     obtain ⟨x3_2, x4_2, rfl, HA, HK2, HO_3, HB⟩ := hrel
     cases gk with
     | zero => exact absurd HA.out (by simp [z77.l1])
     | succ k2 =>
      have H := HA.out
      clear HA
      simp only [z77.l1] at H
      by_cases c6 : x4_2 < (l0.length : Int)
      ·rw [if_pos c6] at H
       have c6b0 : decide (x4_2 < (l0.length : Int)) = true := decide_eq_true c6
       clear c6
       replace H := Option.bind_eq_some_iff.mp H
       obtain ⟨t104, A70, H⟩ := H
       have A7 := Aside0.mk A70
       clear A70
       have H' := Aside0.mk H
       clear H
       obtain ⟨Ao8, co8, eo8⟩ := Kd.R_slice HO_3.out
       subst eo8
       go_wp2_with (first | ((with_reducible refine gate_callee (f := 94) rfl ?_); refine goesL_ (some 21) rfl rfl Try.func94 (by kernel_rfl) rfl #[.slice Ao8 x3_2.length co8, .int .i64 x4_2] rfl (by (try simp only [List.map_toArray, List.map_cons, List.map_nil]); first | done | rfl | (simp only [List.length_drop, List.length_take]; rfl)) ?_; (with_reducible refine (z94.calls k2 _ _ x3_2 x4_2 t104 _ ?side1 ?side2 A7.out).mono ?_); (case side1 => exact KC_ (Kd.R_reads' HO_3.out).2.2); (case side2 => exact (Kd.R_reads' HO_3.out).2.1); rintro e w' ⟨rfl, ⟨nd, rfl⟩⟩; refine ⟨_, rfl, ?_⟩))
       go_loopg [5, 6] k2 (fun kq v5 v6 w' => ∃ (x5_3 : Bool) (x6_3 : Int), v5 = .bool x5_3 ∧ v6 = .int .i64 x6_3 ∧ Aside0 (z77.l2 kq l0 x3_2 x4_2 x5_3 x6_3 = some r) ∧ Aside0 (kq ≤ k2) ∧ Aside0 (Kd.R (Kd.int .i64) 2 w' w.heap.size (fun _ => True) (.slice Ao8 x3_2.length co8) x3_2) ∧ Aside0 (Below w.heap.size w w'))
       case atStart => exact ⟨(!t104), (0), E_, E_, H', ⟨Nat.le_refl _⟩, ⟨KR_ HO_3.out⟩, ⟨B_ HB.out⟩⟩
       case round =>
        clear H'
        (try clear p2);(try clear c4);(try clear c4b0);(try clear c4b1);(try clear c6);(try clear c6b0);(try clear c7);(try clear p2)
        obtain ⟨x5_3, x6_3, rfl, rfl, HA, HK3, HO_3, HB⟩ := hrel
        cases gk with
        | zero => exact absurd HA.out (by simp [z77.l2])
        | succ k3 =>
         have H := HA.out
         clear HA
         simp only [z77.l2] at H
         by_cases c9 : x6_3 < (l0.length : Int)
         ·rw [if_pos c9] at H
          have c9b0 : decide (x6_3 < (l0.length : Int)) = true := decide_eq_true c9
          clear c9
          by_cases c10 : x5_3 = true
          ·subst c10
           replace H := T_ H
           by_cases c11 : x6_3 = x4_2
           ·rw [if_pos c11] at H
            have c11b0 : (x6_3 == x4_2) = true := beq_iff_eq.mpr c11
            have c11b1 : (x6_3 != x4_2) = false := bne_eq_false_iff_eq.mpr c11
            clear c11
            have H' := Aside0.mk H
            clear H
            go_wp2
            go_roundg k3
            case measure => exact Q3_ HK1 HK2 HK3
            case rel => exact ⟨(true), (wrap64 (x6_3 + 1)), E_, E_, H', ⟨Q3_ HK1 HK2 HK3⟩, ⟨KR_ HO_3.out⟩, ⟨B_ HB.out⟩⟩
           ·rw [if_neg c11] at H
            have c11b0 : (x6_3 == x4_2) = false := beq_eq_false_iff_ne.mpr c11
            have c11b1 : (x6_3 != x4_2) = true := bne_iff_ne.mpr c11
            have c12 := O1_ H
            replace H := O2_ H
            have c12b0 := decide_eq_true c12
            clear c12
            have c13 := O1_ H
            replace H := O2_ H
            have c13b0 := decide_eq_true c13
            clear c13
            have c14 := O1_ H
            replace H := O2_ H
            have c14b0 := decide_eq_true c14
            clear c14
            obtain ⟨bq15, hbq15⟩ : ∃ b_ : Bool, b_ = (rdOf false (rd_ListBool l0 x6_3) x4_2) := ⟨_, rfl⟩
            rw [← hbq15] at H
            have Nbq15 := Aside0.mk hbq15
            clear hbq15
            by_cases c16 : (bq15 = true)
            ·subst c16
             replace H := T_ H
             replace H := Option.bind_eq_some_iff.mp H
             obtain ⟨t107, A170, H⟩ := H
             have A17 := Aside0.mk A170
             clear A170
             have H' := Aside0.mk H
             clear H
             have p105 : 0 ≤ (x6_3 : Int) := D_
             have q105 : x6_3 < (l0.length : Int) := D_
             obtain ⟨ad105, A105_0, c105_0, e105, hx105_0, hl105_0, hi105_0⟩ := at_ListBool HR0.out x6_3 p105 q105
             cases e105
             replace hx105_0 := (HB.out.cell (World.block_lt_of_cell? w _ hx105_0)).trans hx105_0
             have HR105_0 := Aside0.mk hi105_0
             have HC105_0 := Aside0.mk hl105_0
             clear hi105_0 hl105_0
             replace p105 := eq_true p105
             replace q105 := eq_true q105
             have p106 : 0 ≤ (x4_2 : Int) := D_
             have q106 : x4_2 < ((rd_ListBool l0 x6_3).length : Int) := D_
             obtain ⟨ad106, e106, hx106_0⟩ := Kd.at_bool HR105_0.out x4_2 p106 q106
             (try rw [← Nbq15.out] at hx106_0)
             cases e106
             replace hx106_0 := (HB.out.cell (World.block_lt_of_cell? w _ hx106_0)).trans hx106_0
             replace p106 := eq_true p106
             replace q106 := eq_true q106
             go_wp2_with (first | (go_at_call 94; (with_reducible refine (z94.calls k3 _ _ x3_2 x6_3 t107 _ ?side1 ?side2 A17.out).mono ?_); (case side1 => exact KC_ (Kd.R_reads' HO_3.out).2.2); (case side2 => exact (Kd.R_reads' HO_3.out).2.1); rintro e w' ⟨rfl, ⟨nd, rfl⟩⟩))
             go_roundg k3
             case measure => exact Q3_ HK1 HK2 HK3
             case rel => exact ⟨(t107), (wrap64 (x6_3 + 1)), E_, E_, H', ⟨Q3_ HK1 HK2 HK3⟩, ⟨KR_ HO_3.out⟩, ⟨B_ HB.out⟩⟩
            ·replace c16 := Bool.eq_false_iff.mpr c16
             subst c16
             replace H := N_ H
             have H' := Aside0.mk H
             clear H
             have p105 : 0 ≤ (x6_3 : Int) := D_
             have q105 : x6_3 < (l0.length : Int) := D_
             obtain ⟨ad105, A105_0, c105_0, e105, hx105_0, hl105_0, hi105_0⟩ := at_ListBool HR0.out x6_3 p105 q105
             cases e105
             replace hx105_0 := (HB.out.cell (World.block_lt_of_cell? w _ hx105_0)).trans hx105_0
             have HR105_0 := Aside0.mk hi105_0
             have HC105_0 := Aside0.mk hl105_0
             clear hi105_0 hl105_0
             replace p105 := eq_true p105
             replace q105 := eq_true q105
             have p106 : 0 ≤ (x4_2 : Int) := D_
             have q106 : x4_2 < ((rd_ListBool l0 x6_3).length : Int) := D_
             obtain ⟨ad106, e106, hx106_0⟩ := Kd.at_bool HR105_0.out x4_2 p106 q106
             (try rw [← Nbq15.out] at hx106_0)
             cases e106
             replace hx106_0 := (HB.out.cell (World.block_lt_of_cell? w _ hx106_0)).trans hx106_0
             replace p106 := eq_true p106
             replace q106 := eq_true q106
             go_wp2
             go_roundg k3
             case measure => exact Q3_ HK1 HK2 HK3
             case rel => exact ⟨(true), (wrap64 (x6_3 + 1)), E_, E_, H', ⟨Q3_ HK1 HK2 HK3⟩, ⟨KR_ HO_3.out⟩, ⟨B_ HB.out⟩⟩
          ·replace c10 := Bool.eq_false_iff.mpr c10
           subst c10
           replace H := N_ H
           have H' := Aside0.mk H
           clear H
           go_wp2
           go_roundg k3
           case measure => exact Q3_ HK1 HK2 HK3
           case rel => exact ⟨(x3_2), (wrap64 (x4_2 + 1)), E_, H', ⟨Q3_ HK1 HK2 HK3⟩, ⟨KR_ HO_3.out⟩, ⟨B_ HB.out⟩⟩
         ·rw [if_neg c9] at H
          have c9b0 : decide (x6_3 < (l0.length : Int)) = false := decide_eq_false c9
          clear c9
          by_cases c18 : x5_3 = true
          ·subst c18
           replace H := T_ H
           have c19 := O1_ H
           replace H := O2_ H
           have LMc19 := Aside0.mk c19
           clear c19
           obtain ⟨y108, hy108⟩ : ∃ y_ : List Int, y_ = (x3_2 ++ [x4_2]) := ⟨_, rfl⟩
           replace H : (z77.l0 k3 l0 y108) = some r := Y_ hy108 H
           have Ny108 := Aside0.mk hy108
           clear hy108
           have H' := Aside0.mk H
           clear H
           go_wp2_with (first | ((with_reducible refine gate_builtin (b := .append) (xs := #[.tmp 51, .tmp 53]) rfl ?_); at_builtin; refine Kd.R_append (Kd.int .i64) (w0 := w) w.heap.size rfl (.tmp 51) (.tmp 53) 41 2 (.int .i64 0) 8 rfl Try.underlying41 info2 rfl (by decide) (by omega) (.slice Ao8 x3_2.length co8) x3_2 x4_2 [.int .i64 x4_2] (fun _ => True) (fun _ => False) rfl rfl ?aP (fun _ hk => hk.elim) ?aF ?aO ?aB ?aS ?aL ?_; (case aP => exact rfl); (case aB => exact (B_ HB.out)); (case aF => exact (fun _ _ => trivial)); (case aO => exact (KR_ HO_3.out)); (case aS => exact (below_size (B_ HB.out))); (case aL => have := LMc19.out; omega); intro v109 w20 ho hb hg hat; rw [← Ny108.out] at ho; replace HB := Aside0.mk (hb); have HO110 := Aside0.mk (ho); clear HO_3; clear ho hb hg hat))
           go_roundg k3
           case measure => exact Q3_ HK1 HK2 HK3
           case rel => exact ⟨(y108), H', ⟨Q3_ HK1 HK2 HK3⟩, ⟨KR_ HO110.out⟩, ⟨B_ HB.out⟩⟩
          ·replace c18 := Bool.eq_false_iff.mpr c18
           subst c18
           replace H := N_ H
           have H' := Aside0.mk H
           clear H
           go_wp2
           go_roundg k3
           case measure => exact Q3_ HK1 HK2 HK3
           case rel => exact ⟨(x3_2), (wrap64 (x4_2 + 1)), E_, H', ⟨Q3_ HK1 HK2 HK3⟩, ⟨KR_ HO_3.out⟩, ⟨B_ HB.out⟩⟩
      ·rw [if_neg c6] at H
       have c6b0 : decide (x4_2 < (l0.length : Int)) = false := decide_eq_false c6
       clear c6
       have H' := Aside0.mk H
       clear H
       go_wp2
       go_roundg k2
       case measure => exact Q2_ HK1 HK2
       case rel => exact ⟨(x3_2), H', ⟨Q2_ HK1 HK2⟩, ⟨KR_ HO_3.out⟩, ⟨B_ HB.out⟩⟩
   ·rw [if_neg c4] at H
    have c4b0 : decide ((x3_1.length : Int) < (l0.length : Int)) = false := decide_eq_false c4
    have c4b1 : decide (x3_1.length < l0.length) = false := decide_eq_false (fun h => c4 (Int.ofNat_lt.mpr h))
    clear c4
    obtain rfl := Option.some.inj H
    obtain ⟨Ao21, co21, eo21⟩ := Kd.R_slice HO_3.out
    subst eo21
    go_wp2
    go_ret
    exact ⟨_, F_, KR_ HO_3.out, B_ HB.out⟩
end Go.Proofs.Ytnohkeijhfjbeaa.B
