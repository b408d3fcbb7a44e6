/- Printed proofs of functions of the program and of the reference, by a program of this work over the kit's printer. -/
import Derived.Test.YtkgajpngeglkmaaKKJBPOK0
import Derived.Test.YtkgajpngeglkmaaKLBBOAD0
import Derived.Test.YtkgajpngeglkmaaKW0
namespace Go.Proofs.Ytkgajpngeglkmaa.B
open Go.RowKit Go.Proofs.YtkgajpngeglkmaaW.PrintWords Go.Proofs.YtkgajpngeglkmaaW.PrintLast Go.Proofs.YtkgajpngeglkmaaW.PrintMore
attribute [local go_sem] qAh qAf qAn qAm qAc qAb qAg qAe
set_option linter.unusedVariables false
set_option linter.unusedSimpArgs false
def z46.l0 : Nat → List (List Int) → List (List Int) → Int → Int → Int → Int → List (List Int) → Option ((List (List Int)))
 | 0, _, _, _, _, _, _, _ => none
 | k + 1, x5, x9, x10, x11, x103000, x103001, x103002 => if x11 < x10 then (if 0 ≤ x11 then (if x11 < (x9.length : Int) then ((z45.f k x103000 x103001 x103002 (rI_ x9 x11)).bind fun t104 => (if t104 = true then (z46.l0 k x5 x9 x10 (wrap64 (x11 + 1)) x103000 x103001 x103002) else ((slices_Clone_int64_int64.f (rI_ x9 x11)).bind fun t105 => (if x5.length < 5864062014805 then ((z92.f k x103002).bind fun t111 => ((some (([rI_ x9 x11] : List (List Int)) : List (List Int))).bind fun y114 => (if t111.length + y114.length < 5864062014805 then ((z76.f k x103000 x103001 (t111 ++ y114)).bind fun bt120 => (z46.l0 k (x5 ++ [t105]) x9 x10 (wrap64 (x11 + 1)) bt120.1 bt120.2.1 bt120.2.2)) else (none)))) else (none))))) else (none)) else (none)) else (some x5)
def z46.f (k : Nat) (a0_0 : Int) (a0_1 : Int) (l0_2 : List (List Int)) (a1_0 : Int) (a1_1 : Int) (l1_2 : List (List Int)) : Option ((List (List Int))) := z46.l0 k ([] : List (List Int)) l0_2 (l0_2.length : Int) 0 a1_0 a1_1 l1_2
def z46.T7 : Bool × List (List Nat × List Nat) := (true, [([], []), ([0], [0]), ([], []), ([2], [2]), ([], []), ([4], [4]), ([5], [5]), ([], []), ([7], [7]), ([6, 8, 6], [6, 8]), ([1, 3, 9, 9], [1, 3, 9]), ([10, 10, 0, 1, 2, 3, 4, 5, 6, 7, 8, 9, 10], [10])])
def z46.B7 : List Nat := [0, 1, 0, 4, 0, 16, 48, 0, 128, 496, 1023, 2047]
theorem z46.tab7 : rtab .any (qCk Try.f46 7) = z46.T7 := by kernel_rfl
theorem z46.bits7 : qA9 z46.T7.2 z46.B7 = true := by kernel_rfl
set_option maxHeartbeats 8000000 in
set_option maxRecDepth 100000 in
theorem z46.calls (k : Nat) (a0_0 : Int) (a0_1 : Int) (P0_2_ : Nat → Prop) (A0_2 : Option Addr) (c0_2 : Nat) (l0_2 : List (List Int)) (a1_0 : Int) (a1_1 : Int) (P1_2_ : Nat → Prop) (A1_2 : Option Addr) (c1_2 : Nat) (l1_2 : List (List Int)) (r : List (List Int)) (w : World) (hs0_2 : Kd.V (Kd.slice 2 (Kd.int .i64)) 40 w w.heap.size (fun k_ => P0_2_ k_) (.slice A0_2 l0_2.length c0_2) l0_2) (hs1_2 : Kd.V (Kd.slice 2 (Kd.int .i64)) 40 w w.heap.size (fun k_ => P1_2_ k_) (.slice A1_2 l1_2.length c1_2) l1_2) (h : z46.f k a0_0 a0_1 l0_2 a1_0 a1_1 l1_2 = some r) :
  Calls Try.prog 46 #[.agg #[.int .i64 a0_0, .int .i64 a0_1, .slice A0_2 l0_2.length c0_2], .agg #[.int .i64 a1_0, .int .i64 a1_1, .slice A1_2 l1_2.length c1_2]] w fun e w' => ∃ v0_ : Value, e = .returned (v0_) ∧ Kd.S (Kd.slice 2 (Kd.int .i64)) 40 w' w.heap.size (fun k_ => (w.heap.size ≤ k_)) v0_ r ∧ Below w.heap.size w w' := by
 have hu28 := Try.underlying28
 have HO0_2 := Zz.mk (show Kd.V (Kd.slice 2 (Kd.int .i64)) 40 w w.heap.size (fun k_ => ((P0_2_ k_ ∨ P1_2_ k_) ∨ w.heap.size ≤ k_)) (.slice A0_2 l0_2.length c0_2) l0_2 from Kd.V_mono hs0_2 (fun k_ hk => .inl (.inl hk)))
 have HO1_2 := Zz.mk (show Kd.V (Kd.slice 2 (Kd.int .i64)) 40 w w.heap.size (fun k_ => ((P0_2_ k_ ∨ P1_2_ k_) ∨ w.heap.size ≤ k_)) (.slice A1_2 l1_2.length c1_2) l1_2 from Kd.V_mono hs1_2 (fun k_ hk => .inl (.inr hk)))
 have HB := Zz.mk (Below.refl w.heap.size w)
 have H : (z46.l0 k ([] : List (List Int)) l0_2 (l0_2.length : Int) 0 a1_0 a1_1 l1_2) = some r := h
 clear h
 have H' := Zz.mk H
 clear H
 go_enter Try.func46, Try.ntmps46
 go_wp2_with (first | ((with_reducible refine qAi (N := 2) rfl ?_); refine bx_ 2 #[.int .i64 a0_0, .int .i64 a0_1, .slice A0_2 l0_2.length c0_2] 28 ?_; intro gb101 hg w3 hbox hb; have BK101 := Zz.mk (hbox); have GW101 := Zz.mk ((gw_ hg (B_ HB.out))); have GE101 := GW101; replace HO0_2 := Zz.mk (Kd.V_below (Kd.V_elderB (by refine VW_ ?_; exact HO0_2.out) gb101 (Nat.le_of_eq hg.symm)) hb); replace HO1_2 := Zz.mk (Kd.V_below (Kd.V_elderB (by refine VW_ ?_; exact HO1_2.out) gb101 (Nat.le_of_eq hg.symm)) hb); replace HB := Zz.mk (bT_ (B_ HB.out) hb); clear hb hbox hg) | ((with_reducible refine qAi (N := 3) rfl ?_); refine bx_ 3 #[.int .i64 a1_0, .int .i64 a1_1, .slice A1_2 l1_2.length c1_2] 28 ?_; intro gb102 hg w4 hbox hb; have BK102 := Zz.mk (hbox); have GW102 := Zz.mk ((gw_ hg (B1_ HB.out GE101.out))); have GE102 := GW102; have NB101_102 := Zz.mk ((nb_ BK101.out hg)); have NB102_101 := Zz.mk NB101_102.out.symm; replace HO0_2 := Zz.mk (Kd.V_below (Kd.V_elderB (by refine VW_ ?_; exact HO0_2.out) gb102 (Nat.le_of_eq hg.symm)) hb); replace HO1_2 := Zz.mk (Kd.V_below (Kd.V_elderB (by refine VW_ ?_; exact HO1_2.out) gb102 (Nat.le_of_eq hg.symm)) hb); replace BK101 := Zz.mk (kb_ BK101.out hb); replace HB := Zz.mk (bT_ (B1_ HB.out GE101.out) hb); clear hb hbox hg; have hnb5 := NB101_102.out; have hnc5 := NB102_101.out; obtain ⟨hcz6_0, hcz6_1, hcz6_2, hfz6_0, hfz6_1, hfz6_2⟩ := Z3f_ BK101.out))
 go_loopg [5, 11] k (fun kq v5 v11 w' => ∃ (x5_1 : List (List Int)) (x11_1 : Int) (x103000_1 : Int) (x103001_1 : Int) (x103002_1 : List (List Int)) (u103002 : Value), v11 = .int .i64 x11_1 ∧ Zz (z46.l0 kq x5_1 l0_2 (l0_2.length : Int) x11_1 x103000_1 x103001_1 x103002_1 = some r) ∧ Zz (kq ≤ k) ∧ Zz (Kd.S (Kd.slice 2 (Kd.int .i64)) 40 w' w.heap.size (fun k_ => (w.heap.size ≤ k_)) v5 x5_1) ∧ Zz (Kd.V (Kd.slice 2 (Kd.int .i64)) 40 w' w.heap.size (fun k_ => ((P0_2_ k_ ∨ P1_2_ k_) ∨ w.heap.size ≤ k_) ∧ some k_ ≠ (v5 : Value).ownBlock ∧ k_ ≠ gb101 ∧ k_ ≠ gb102) (.slice A0_2 l0_2.length c0_2) l0_2) ∧ Zz (Kd.V (Kd.slice 2 (Kd.int .i64)) 40 w' w.heap.size (fun k_ => ((P0_2_ k_ ∨ P1_2_ k_) ∨ w.heap.size ≤ k_) ∧ some k_ ≠ (v5 : Value).ownBlock ∧ k_ ≠ gb101 ∧ k_ ≠ gb102) (.slice A0_2 l0_2.length c0_2) l0_2) ∧ Zz (Kd.V (Kd.slice 2 (Kd.int .i64)) 40 w' w.heap.size (fun k_ => ((P0_2_ k_ ∨ P1_2_ k_) ∨ w.heap.size ≤ k_) ∧ some k_ ≠ (v5 : Value).ownBlock ∧ k_ ≠ gb101 ∧ k_ ≠ gb102) u103002 x103002_1) ∧ Zz (w'.heap[gb101]? = some (.cells #[.int .i64 a0_0, .int .i64 a0_1, (.slice A0_2 l0_2.length c0_2)] 28 (0, 0))) ∧ Zz (w'.heap[gb102]? = some (.cells #[.int .i64 x103000_1, .int .i64 x103001_1, u103002] 28 (0, 0))) ∧ Zz (Below w.heap.size w w'))
 case atStart => exact ⟨(([] : List (List Int))), (0), (a1_0), (a1_1), (l1_2), (.slice A1_2 l1_2.length c1_2), E_, H', ⟨Nat.le_refl _⟩, ⟨by first | exact Kd.S_nil _ _ _ _ _ | exact Kd.N_nil _ _ _ _ _ | exact Kd.V_nil _ _ _ _ _ | exact Kd.Q_nil _ _ _ _ _ | exact Kd.R_nil _ _ _ _ _⟩, ⟨by refine VW_ ?_; exact Kd.V_mono HO0_2.out (fun _ hk => ⟨hk.1.1, ⟨(by simp [Value.ownBlock]), ⟨hk.1.2, hk.2⟩⟩⟩)⟩, ⟨by refine VW_ ?_; exact Kd.V_mono HO0_2.out (fun _ hk => ⟨hk.1.1, ⟨(by simp [Value.ownBlock]), ⟨hk.1.2, hk.2⟩⟩⟩)⟩, ⟨by refine VW_ ?_; exact Kd.V_mono HO1_2.out (fun _ hk => ⟨hk.1.1, ⟨(by simp [Value.ownBlock]), ⟨hk.1.2, hk.2⟩⟩⟩)⟩, ⟨KB_ BK101.out⟩, ⟨KB_ BK102.out⟩, ⟨B2_ HB.out GE101.out GE102.out⟩⟩
 case round =>
  clear H'
  (try clear hcz6_0);(try clear hcz6_1);(try clear hcz6_2);(try clear hfz6_0);(try clear hfz6_1);(try clear hfz6_2)
  obtain ⟨x5_1, x11_1, x103000_1, x103001_1, x103002_1, u103002, rfl, HA, HK1, HO_5, HO_9, HO_102002, HO_103002, BK101, BK102, HB⟩ := hrel
  cases gk with
  | zero => exact absurd HA.out (by simp [z46.l0])
  | succ k1 =>
   have H := HA.out
   clear HA
   simp only [z46.l0] at H
   by_cases c7 : x11_1 < (l0_2.length : Int)
   ·rw [if_pos c7] at H
    have c7b0 : decide (x11_1 < (l0_2.length : Int)) = true := decide_eq_true c7
    clear c7
    have c8b0 := O3_ H
    replace H := O2_ H
    have c9b0 := O3_ H
    replace H := O2_ H
    replace H := OZ_ H
    obtain ⟨t104, A10, H⟩ := H
    by_cases c11 : t104 = true
    ·subst c11
     replace H := T_ H
     have H' := Zz.mk H
     clear H
     have p103 : 0 ≤ (x11_1 : Int) := D_
     have q103 : x11_1 < (l0_2.length : Int) := D_
     obtain ⟨ad103, A103_0, c103_0, e103, hx103_0, hl103_0, hi103_0⟩ := qAk (Kd.V_reads' HO_9.out).2.2 x11_1 p103 q103
     cases e103
     obtain ⟨ce103, hce103, hMe103, hcc103⟩ := Kd.V_get HO_9.out [] x11_1 p103 (by first | exact q103 | exact D_ | (have e_ := (Kd.V_reads' HO_9.out).1; omega))
     obtain ⟨ua103_0, uc103_0, rfl, ul103_0, ge103_0⟩ := Kd.FK_slice_open hMe103
     have hv103_0 := hcc103 0 _ rfl
     rw [Nat.add_zero, show ((Kd.slice 2 (Kd.int .i64))).sz = 1 from rfl, Nat.mul_one] at hv103_0
     replace hv103_0 := Option.some.inj (hv103_0.symm.trans hx103_0)
     injection hv103_0 with hva_ hvn_ hvc_
     rw [hva_] at ge103_0
     rw [hvc_] at ul103_0
     have HL103_0 := Zz.mk (show Kd.V (Kd.int .i64) 2 _ w.heap.size _ _ (rI_ l0_2 x11_1) from Kd.V_mk ul103_0 ge103_0)
     clear hva_ hvn_ hvc_ ge103_0 ul103_0
     clear hcc103 hce103
     have HR103_0 := Zz.mk hi103_0
     have HC103_0 := Zz.mk hl103_0
     clear hi103_0 hl103_0
     replace p103 := eq_true p103
     replace q103 := eq_true q103
     have hnb12 := NB102_101.out
     have hnc12 := NB101_102.out
     obtain ⟨hcz13_0, hcz13_1, hcz13_2, hfz13_0, hfz13_1, hfz13_2⟩ := Z3f_ BK102.out
     obtain ⟨Ao14, co14, eo14⟩ := Kd.V_slice HO_103002.out
     subst eo14
     go_wp2_with (first | ((with_reducible refine gC_ (f := 45) rfl ?_); refine GL_ (some 17) rfl rfl Try.func45 #[.agg #[.int .i64 x103000_1, .int .i64 x103001_1, .slice Ao14 x103002_1.length co14], .slice A103_0 (rI_ l0_2 x11_1).length c103_0] rfl (h := ?_); (with_reducible refine (z45.calls k1 x103000_1 x103001_1 _ _ x103002_1 _ _ (rI_ l0_2 x11_1) true _ ?side1 ?side2 ?side3 ?side4 A10.out).mono ?_); (case side1 => exact KC_ (Kd.V_reads' HO_103002.out).2.2); (case side2 => exact (Kd.V_reads' HO_103002.out).2.1); (case side3 => exact KC_ (KC_ HR103_0.out)); (case side4 => exact HC103_0.out); rintro e w15 ⟨rfl, hb⟩; refine ⟨_, rfl, ?_⟩; replace HO_5 := Zz.mk (Kd.S_below (KS_ HO_5.out) hb); replace HO_9 := Zz.mk (Kd.V_below (by refine VW_ ?_; exact HO_9.out) hb); replace HO_102002 := Zz.mk (Kd.V_below (by refine VW_ ?_; exact HO_102002.out) hb); replace HO_103002 := Zz.mk (Kd.V_below (by refine VW_ ?_; exact HO_103002.out) hb); replace HL103_0 := Zz.mk (Kd.V_below (by refine VW_ ?_; exact HL103_0.out) hb); replace BK101 := Zz.mk (kb_ BK101.out hb); replace BK102 := Zz.mk (kb_ BK102.out hb); replace HR103_0 := Zz.mk (Kd.C_below (KC_ HR103_0.out) hb); replace HB := Zz.mk (bT_ (B2_ HB.out GE101.out GE102.out) hb); (try clear hb)))
     go_roundg k1
     case measure => exact Q1_ HK1
     case rel => exact ⟨(x5_1), (wrap64 (x11_1 + 1)), (x103000_1), (x103001_1), (x103002_1), (.slice Ao14 x103002_1.length co14), E_, H', ⟨Q1_ HK1⟩, ⟨KS_ HO_5.out⟩, ⟨by refine VW_ ?_; exact HO_9.out⟩, ⟨by refine VW_ ?_; exact HO_102002.out⟩, ⟨by refine VW_ ?_; exact HO_103002.out⟩, ⟨KB_ BK101.out⟩, ⟨KB_ BK102.out⟩, ⟨B2_ HB.out GE101.out GE102.out⟩⟩
    replace c11 := Bool.eq_false_iff.mpr c11
    subst c11
    replace H := N_ H
    replace H := OZ_ H
    obtain ⟨t105, A16, H⟩ := H
    have c17 := O1_ H
    replace H := O2_ H
    have LMc17 := Zz.mk c17
    clear c17
    obtain ⟨y108, hy108⟩ : ∃ y_ : List (List Int), y_ = (x5_1 ++ [t105]) := ⟨_, rfl⟩
    replace H : ((z92.f k1 x103002_1).bind fun t111 => ((some (([rI_ l0_2 x11_1] : List (List Int)) : List (List Int))).bind fun y114 => (if t111.length + y114.length < 5864062014805 then ((z76.f k1 x103000_1 x103001_1 (t111 ++ y114)).bind fun bt120 => (z46.l0 k1 y108 l0_2 (l0_2.length : Int) (wrap64 (x11_1 + 1)) bt120.1 bt120.2.1 bt120.2.2)) else (none)))) = some r := Y_ hy108 H
    have Ny108 := Zz.mk hy108
    clear hy108
    replace H := OZ_ H
    obtain ⟨t111, A18, H⟩ := H
    obtain ⟨y114, hy114⟩ : ∃ y_ : List (List Int), y_ = (([rI_ l0_2 x11_1] : List (List Int))) := ⟨_, rfl⟩
    replace H : (if t111.length + y114.length < 5864062014805 then ((z76.f k1 x103000_1 x103001_1 (t111 ++ y114)).bind fun bt120 => (z46.l0 k1 y108 l0_2 (l0_2.length : Int) (wrap64 (x11_1 + 1)) bt120.1 bt120.2.1 bt120.2.2)) else (none)) = some r := Y_ hy114 H
    have Ny114 := Zz.mk hy114
    clear hy114
    have c19 := O1_ H
    replace H := O2_ H
    have LMc19 := Zz.mk c19
    clear c19
    obtain ⟨y117, hy117⟩ : ∃ y_ : List (List Int), y_ = (t111 ++ y114) := ⟨_, rfl⟩
    replace H : ((z76.f k1 x103000_1 x103001_1 y117).bind fun bt120 => (z46.l0 k1 y108 l0_2 (l0_2.length : Int) (wrap64 (x11_1 + 1)) bt120.1 bt120.2.1 bt120.2.2)) = some r := Y_ hy117 H
    have Ny117 := Zz.mk hy117
    clear hy117
    replace H := OB_ H
    obtain ⟨⟨t120, t121, t122⟩, A200, H⟩ := H
    try dsimp only at H
    have A20 := Zz.mk A200
    clear A200
    have H' := Zz.mk H
    clear H
    have p103 : 0 ≤ (x11_1 : Int) := D_
    have q103 : x11_1 < (l0_2.length : Int) := D_
    obtain ⟨ad103, A103_0, c103_0, e103, hx103_0, hl103_0, hi103_0⟩ := qAk (Kd.V_reads' HO_9.out).2.2 x11_1 p103 q103
    cases e103
    obtain ⟨ce103, hce103, hMe103, hcc103⟩ := Kd.V_get HO_9.out [] x11_1 p103 (by first | exact q103 | exact D_ | (have e_ := (Kd.V_reads' HO_9.out).1; omega))
    obtain ⟨ua103_0, uc103_0, rfl, ul103_0, ge103_0⟩ := Kd.FK_slice_open hMe103
    have hv103_0 := hcc103 0 _ rfl
    rw [Nat.add_zero, show ((Kd.slice 2 (Kd.int .i64))).sz = 1 from rfl, Nat.mul_one] at hv103_0
    replace hv103_0 := Option.some.inj (hv103_0.symm.trans hx103_0)
    injection hv103_0 with hva_ hvn_ hvc_
    rw [hva_] at ge103_0
    rw [hvc_] at ul103_0
    have HL103_0 := Zz.mk (show Kd.V (Kd.int .i64) 2 _ w.heap.size _ _ (rI_ l0_2 x11_1) from Kd.V_mk ul103_0 ge103_0)
    clear hva_ hvn_ hvc_ ge103_0 ul103_0
    clear hcc103 hce103
    have HR103_0 := Zz.mk hi103_0
    have HC103_0 := Zz.mk hl103_0
    clear hi103_0 hl103_0
    replace p103 := eq_true p103
    replace q103 := eq_true q103
    have hnb21 := NB102_101.out
    have hnc21 := NB101_102.out
    obtain ⟨hcz22_0, hcz22_1, hcz22_2, hfz22_0, hfz22_1, hfz22_2⟩ := Z3f_ BK102.out
    obtain ⟨Ao23, co23, eo23⟩ := Kd.V_slice HO_103002.out
    subst eo23
    try go_wp2_with (first | ((with_reducible refine gC_ (f := 45) rfl ?_); refine GL_ (some 17) rfl rfl Try.func45 #[.agg #[.int .i64 x103000_1, .int .i64 x103001_1, .slice Ao23 x103002_1.length co23], .slice A103_0 (rI_ l0_2 x11_1).length c103_0] rfl (h := ?_); (with_reducible refine (z45.calls k1 x103000_1 x103001_1 _ _ x103002_1 _ _ (rI_ l0_2 x11_1) false _ ?side1 ?side2 ?side3 ?side4 A10.out).mono ?_); (case side1 => exact KC_ (Kd.V_reads' HO_103002.out).2.2); (case side2 => exact (Kd.V_reads' HO_103002.out).2.1); (case side3 => exact KC_ (KC_ HR103_0.out)); (case side4 => exact HC103_0.out); rintro e w24 ⟨rfl, hb⟩; refine ⟨_, rfl, ?_⟩; replace HO_5 := Zz.mk (Kd.S_below (KS_ HO_5.out) hb); replace HO_9 := Zz.mk (Kd.V_below (by refine VW_ ?_; exact HO_9.out) hb); replace HO_102002 := Zz.mk (Kd.V_below (by refine VW_ ?_; exact HO_102002.out) hb); replace HO_103002 := Zz.mk (Kd.V_below (by refine VW_ ?_; exact HO_103002.out) hb); replace HL103_0 := Zz.mk (Kd.V_below (by refine VW_ ?_; exact HL103_0.out) hb); replace BK101 := Zz.mk (kb_ BK101.out hb); replace BK102 := Zz.mk (kb_ BK102.out hb); replace HR103_0 := Zz.mk (Kd.C_below (KC_ HR103_0.out) hb); replace HB := Zz.mk (bT_ (B2_ HB.out GE101.out GE102.out) hb); (try clear hb)) | ((with_reducible refine gC_ (f := 91) rfl ?_); refine GL_ (some 21) rfl rfl Try.func91 #[.slice A103_0 (rI_ l0_2 x11_1).length c103_0] rfl (h := ?_); (with_reducible refine (slices_Clone_int64_int64.calls _ _ (rI_ l0_2 x11_1) t105 _ ?side1 ?side2 A16.out).mono ?_); (case side1 => exact KC_ (KC_ HR103_0.out)); (case side2 => exact HC103_0.out); rintro e w25 ⟨v106, rfl, ho0, hb⟩; refine ⟨_, rfl, ?_⟩; replace HO_5 := Zz.mk (Kd.S_elder' (KS_ HO_5.out) (Kd.R_base ho0) hb); replace HO_9 := Zz.mk (Kd.V_elder' (by refine VW_ ?_; exact HO_9.out) (Kd.R_base ho0) hb); replace HO_102002 := Zz.mk (Kd.V_elder' (by refine VW_ ?_; exact HO_102002.out) (Kd.R_base ho0) hb); replace HO_103002 := Zz.mk (Kd.V_elder' (by refine VW_ ?_; exact HO_103002.out) (Kd.R_base ho0) hb); replace HL103_0 := Zz.mk (Kd.V_elder' (by refine VW_ ?_; exact HL103_0.out) (Kd.R_base ho0) hb); have HO107 := Zz.mk (Kd.R_lower (Kd.R_newM (M := fun k_ => (w.heap.size ≤ k_)) ho0 (bS_ (B2_ HB.out GE101.out GE102.out)) (fun k_ h_ => h_)) (bS_ (B2_ HB.out GE101.out GE102.out))); replace BK101 := Zz.mk (kb_ BK101.out hb); replace BK102 := Zz.mk (kb_ BK102.out hb); replace HR103_0 := Zz.mk (Kd.C_below (KC_ HR103_0.out) hb); replace HB := Zz.mk (bT_ (B2_ HB.out GE101.out GE102.out) hb); (try clear hb); (try clear ho0); obtain ⟨Ao27, co27, eo27⟩ := Kd.R_slice HO107.out; subst eo27) | ((with_reducible refine qA0 (b := .append) (xs := #[.tmp 19, .tmp 22]) rfl ?_); at_builtin; refine Kd.S_append (Kd.slice 2 (Kd.int .i64)) (w0 := w) w.heap.size rfl (.tmp 19) (.tmp 22) 22 40 (.slice none 0 0) 24 rfl Try.underlying22 qBs rfl (by decide) (by omega) u5 x5_1 t105 [.slice Ao27 t105.length co27] (fun k_ => (w.heap.size ≤ k_)) (fun k_ => some k_ = (.slice Ao27 t105.length co27 : Value).ownBlock) rfl rfl ?aP (fun k_ hk_ => ((Kd.R_mono (ok' := fun k_ => ((fun k_ => (w.heap.size ≤ k_))) k_ ∧ some k_ ≠ (u5 : Value).ownBlock) (Kd.R_apart' (HO107.out) (Kd.S_typed HO_5.out) (by decide)) (fun k_ hk => ⟨hk.1.1, hk.2⟩))).1 k_ hk_.symm) ?aF ?aO ?aB ?aS ?aL ?_; (case aP => exact Kd.M_row (Kd.R_mono (Kd.R_tight rfl (Kd.R_mono (ok' := fun k_ => ((fun k_ => (w.heap.size ≤ k_))) k_ ∧ some k_ ≠ (u5 : Value).ownBlock) (Kd.R_apart' (HO107.out) (Kd.S_typed HO_5.out) (by decide)) (fun k_ hk => ⟨hk.1.1, hk.2⟩))) (fun _ h_ => h_))); (case aB => exact (B2_ HB.out GE101.out GE102.out)); (case aF => exact (fun k_ hk => (Nat.le_trans (bS_ (B2_ HB.out GE101.out GE102.out)) hk))); (case aO => exact (by refine SW_ ?_; exact Kd.S_mono HO_5.out (fun k_ hk => ⟨hk.1, fun e_ => hk.2 e_⟩))); (case aS => exact (bS_ (B2_ HB.out GE101.out GE102.out))); (case aL => have := LMc17.out; omega); intro v109 w26 ho hb hg hat; rw [← Ny108.out] at ho; replace HO_9 := Zz.mk (Kd.V_afterv (ok := (fun k_ => ((P0_2_ k_ ∨ P1_2_ k_) ∨ w.heap.size ≤ k_) ∧ some k_ ≠ (.slice Ao27 t105.length co27 : Value).ownBlock ∧ k_ ≠ gb101 ∧ k_ ≠ gb102)) (by refine VW_ ?_; exact Kd.V_mono HO_9.out (fun _ hk => pj_ hk)) hg hat); replace HO_102002 := Zz.mk (Kd.V_afterv (ok := (fun k_ => ((P0_2_ k_ ∨ P1_2_ k_) ∨ w.heap.size ≤ k_) ∧ some k_ ≠ (.slice Ao27 t105.length co27 : Value).ownBlock ∧ k_ ≠ gb101 ∧ k_ ≠ gb102)) (by refine VW_ ?_; exact Kd.V_mono HO_102002.out (fun _ hk => pj_ hk)) hg hat); replace HO_103002 := Zz.mk (Kd.V_afterv (ok := (fun k_ => ((P0_2_ k_ ∨ P1_2_ k_) ∨ w.heap.size ≤ k_) ∧ some k_ ≠ (.slice Ao27 t105.length co27 : Value).ownBlock ∧ k_ ≠ gb101 ∧ k_ ≠ gb102)) (by refine VW_ ?_; exact Kd.V_mono HO_103002.out (fun _ hk => pj_ hk)) hg hat); replace BK101 := Zz.mk (qAy (g := gb101) (o := .cells #[.int .i64 a0_0, .int .i64 a0_1, .slice (some ad103) l0_2.length c0_2] 28 (0, 0)) (KB_ BK101.out) hg (Kd.S_ne HO_5.out BK101.out (by decide))); replace BK102 := Zz.mk (qAy (g := gb102) (o := .cells #[.int .i64 x103000_1, .int .i64 x103001_1, .slice Ao23 x103002_1.length co23] 28 (0, 0)) (KB_ BK102.out) hg (Kd.S_ne HO_5.out BK102.out (by decide))); replace HL103_0 := Zz.mk (Kd.V_afterv (ok := (fun k_ => ((P0_2_ k_ ∨ P1_2_ k_) ∨ w.heap.size ≤ k_) ∧ some k_ ≠ (.slice Ao27 t105.length co27 : Value).ownBlock ∧ k_ ≠ gb101 ∧ k_ ≠ gb102)) (by refine VW_ ?_; exact Kd.V_mono HL103_0.out (fun _ hk => pj_ hk)) hg hat); replace HB := Zz.mk (hb); have HO110 := Zz.mk (ho); clear HO_5; clear HO107; clear ho hb hg hat))
    replace HO_9 := Zz.mk (Kd.V_drew HO_9.out)
    replace HO_102002 := Zz.mk (Kd.V_drew HO_102002.out)
    replace HO_103002 := Zz.mk (Kd.V_drew HO_103002.out)
    replace HL103_0 := Zz.mk (Kd.V_drew HL103_0.out)
    replace HO110 := Zz.mk (Kd.S_drew HO110.out)
    replace BK101 := Zz.mk (bD_ BK101.out)
    replace BK102 := Zz.mk (bD_ BK102.out)
    replace HB := Zz.mk (qAj HB.out)
    refine qBf (n := 12) (S := fun w' => w'.cell? ⟨gb102, 0, none⟩ = some (.int .i64 x103000_1) ∧ w'.cell? ⟨gb102, 1, none⟩ = some (.int .i64 x103001_1) ∧ w'.cell? ⟨gb102, 2, none⟩ = some (.slice Ao23 x103002_1.length co23)) (ds := [11]) (tb_ 12 0) (by kernel_rfl) rfl rfl (Z3_ BK102.out) (fun hHeld => ?_); refine qAv z46.tab7 z46.bits7 (fun HT_ HW_ => ?_)
    generalize w26.drew = w28 at HO_9 HO_102002 HO_103002 HL103_0 HO110 BK101 BK102 HB hHeld ⊢
    refine PX_ 0 24 (tb_ 12 1) HT_ rfl rfl ?_
    refine PX_ 2 26 (tb_ 12 5) HT_ rfl rfl ?_
    refine PX_ 4 28 (tb_ 12 21) HT_ rfl rfl ?_
    refine PX_ 7 31 (tb_ 12 149) HT_ rfl rfl ?_
    refine TX_ 1 25 (tb_ 12 151) HT_ HW_ rfl rfl hHeld ?_
    refine TX_ 3 27 (tb_ 12 159) HT_ HW_ rfl rfl hHeld ?_
    refine TX_ 5 29 (tb_ 12 191) HT_ HW_ rfl rfl hHeld ?_
    refine qI0 (σ := Value × Value) 3 (tb_ 12 511) (fun s_ => [(30, s_.1), (32, s_.2)]) (fun s_ w' => (w'.cell? ⟨gb102, 0, none⟩ = some (.int .i64 x103000_1) ∧ w'.cell? ⟨gb102, 1, none⟩ = some (.int .i64 x103001_1) ∧ w'.cell? ⟨gb102, 2, none⟩ = some (.slice Ao23 x103002_1.length co23)) ∧ (Kd.V (Kd.int .i64) 2 w' w.heap.size (fun k_ => ((P0_2_ k_ ∨ P1_2_ k_) ∨ w.heap.size ≤ k_) ∧ some k_ ≠ (v109 : Value).ownBlock ∧ some k_ ≠ (s_.1 : Value).ownBlock ∧ some k_ ≠ (s_.2 : Value).ownBlock ∧ k_ ≠ gb101 ∧ k_ ≠ gb102) (.slice A103_0 (rI_ l0_2 x11_1).length c103_0) (rI_ l0_2 x11_1)) ∧ (Kd.S (Kd.slice 2 (Kd.int .i64)) 40 w' w.heap.size (fun k_ => (w.heap.size ≤ k_) ∧ some k_ ≠ (s_.1 : Value).ownBlock ∧ some k_ ≠ (s_.2 : Value).ownBlock) v109 y108) ∧ (Kd.S (Kd.slice 2 (Kd.int .i64)) 40 w' w.heap.size (fun k_ => (w.heap.size ≤ k_) ∧ some k_ ≠ (v109 : Value).ownBlock ∧ some k_ ≠ (s_.2 : Value).ownBlock) s_.1 t111) ∧ (Kd.N (Kd.slice 2 (Kd.int .i64)) 40 w' w.heap.size (fun k_ => ((P0_2_ k_ ∨ P1_2_ k_) ∨ w.heap.size ≤ k_) ∧ some k_ ≠ (v109 : Value).ownBlock ∧ some k_ ≠ (s_.1 : Value).ownBlock ∧ k_ ≠ gb101 ∧ k_ ≠ gb102) s_.2 y114) ∧ (Kd.V (Kd.slice 2 (Kd.int .i64)) 40 w' w.heap.size (fun k_ => ((P0_2_ k_ ∨ P1_2_ k_) ∨ w.heap.size ≤ k_) ∧ some k_ ≠ (v109 : Value).ownBlock ∧ some k_ ≠ (s_.1 : Value).ownBlock ∧ some k_ ≠ (s_.2 : Value).ownBlock ∧ k_ ≠ gb101 ∧ k_ ≠ gb102) (.slice (some ad103) l0_2.length c0_2) l0_2) ∧ (Kd.V (Kd.slice 2 (Kd.int .i64)) 40 w' w.heap.size (fun k_ => ((P0_2_ k_ ∨ P1_2_ k_) ∨ w.heap.size ≤ k_) ∧ some k_ ≠ (v109 : Value).ownBlock ∧ some k_ ≠ (s_.1 : Value).ownBlock ∧ some k_ ≠ (s_.2 : Value).ownBlock ∧ k_ ≠ gb101 ∧ k_ ≠ gb102) (.slice Ao23 x103002_1.length co23) x103002_1) ∧ (Kd.V (Kd.slice 2 (Kd.int .i64)) 40 w' w.heap.size (fun k_ => ((P0_2_ k_ ∨ P1_2_ k_) ∨ w.heap.size ≤ k_) ∧ some k_ ≠ (v109 : Value).ownBlock ∧ some k_ ≠ (s_.1 : Value).ownBlock ∧ some k_ ≠ (s_.2 : Value).ownBlock ∧ k_ ≠ gb101 ∧ k_ ≠ gb102) (.slice (some ad103) l0_2.length c0_2) l0_2) ∧ (w'.heap[gb101]? = some (.cells #[.int .i64 a0_0, .int .i64 a0_1, .slice (some ad103) l0_2.length c0_2] 28 (0, 0))) ∧ (w'.heap[gb102]? = some (.cells #[.int .i64 x103000_1, .int .i64 x103001_1, .slice Ao23 x103002_1.length co23] 28 (0, 0))) ∧ (Below w.heap.size w w')) ?_ ?_
    rotate_left
    ·intro hCont
     refine two_ (i := 6) (j := 8) (Ni := some 30) (Nj := some 32) (tb_ 12 255) (tb_ 12 447) rfl rfl rfl rfl (qD6 HT_.out (by kernel_rfl)) (by decide) (by decide) (fun K hK => ?_) (fun K hK => ?_)
     ·skip
      refine GO_ Try.func92 #[.slice Ao23 x103002_1.length co23] (h := ?_)
      with_reducible refine (z92.calls k1 _ _ x103002_1 t111 _ ?side1 ?side2 A18.out).mono ?_
      (case side1 => exact KC_ (Kd.V_reads' HO_103002.out).2.2)
      (case side2 => exact (Kd.V_reads' HO_103002.out).2.1)
      rintro e w29 ⟨v112, rfl, ho0, hb⟩
      refine ⟨_, rfl, ?_⟩
      have HO113 := Zz.mk (Kd.S_lower (Kd.S_new' (Kd.S_newM (M := fun k_ => (w.heap.size ≤ k_)) ho0 (bS_ (B2_ HB.out GE101.out GE102.out)) (fun k_ h_ => h_)) (Kd.S_lt (KS_ HO110.out))) (bS_ (B2_ HB.out GE101.out GE102.out)))
      replace HO_9 := Zz.mk (Kd.V_elder' (by refine VW_ ?_; exact HO_9.out) (Kd.S_base ho0) hb)
      replace HO_102002 := Zz.mk (Kd.V_elder' (by refine VW_ ?_; exact HO_102002.out) (Kd.S_base ho0) hb)
      replace HO_103002 := Zz.mk (Kd.V_elder' (by refine VW_ ?_; exact HO_103002.out) (Kd.S_base ho0) hb)
      replace HL103_0 := Zz.mk (Kd.V_elder' (by refine VW_ ?_; exact HL103_0.out) (Kd.S_base ho0) hb)
      replace HO110 := Zz.mk (Kd.S_elder' (KS_ HO110.out) (Kd.S_base ho0) hb)
      replace BK101 := Zz.mk (kb_ BK101.out hb)
      replace BK102 := Zz.mk (kb_ BK102.out hb)
      replace HB := Zz.mk (bT_ (B2_ HB.out GE101.out GE102.out) hb)
      (try clear hb);(try clear hk);(try clear ho0)
      refine hK.out _ _ (Z3_ BK102.out) (fun hHeld => ?_)
      clear hK K
      refine NM_ (N := (some 30)) (h := ?_)
      refine one_ (i := 8) (N := some 32) (tb_ 12 511) rfl rfl (qAs HT_.out (by kernel_rfl)) (by decide) (fun K hK => ?_)
      refine Kd.N_lit_step (Kd.slice 2 (Kd.int .i64)) _ 40 ?hg (N' := 32) ?hd (xs := ([rI_ l0_2 x11_1] : List (List Int))) (inner := [.slice A103_0 (rI_ l0_2 x11_1).length c103_0]) (ok := (fun k_ => ((P0_2_ k_ ∨ P1_2_ k_) ∨ w.heap.size ≤ k_) ∧ some k_ ≠ (v109 : Value).ownBlock ∧ some k_ ≠ (v112 : Value).ownBlock ∧ k_ ≠ gb101 ∧ k_ ≠ gb102)) (okp := (fun k_ => ((P0_2_ k_ ∨ P1_2_ k_) ∨ w.heap.size ≤ k_) ∧ some k_ ≠ (v109 : Value).ownBlock ∧ some k_ ≠ (v112 : Value).ownBlock ∧ k_ ≠ gb101 ∧ k_ ≠ gb102)) ?hr ?hp (fun _ hk => hk) ((show ∀ k_, w29.heap.size ≤ k_ → (fun k_ => ((P0_2_ k_ ∨ P1_2_ k_) ∨ w.heap.size ≤ k_) ∧ some k_ ≠ (v109 : Value).ownBlock ∧ some k_ ≠ (v112 : Value).ownBlock ∧ k_ ≠ gb101 ∧ k_ ≠ gb102) k_ from fun k_ hk => ⟨(.inr (Nat.le_trans (bS_ (B2_ HB.out GE101.out GE102.out)) hk)), Kd.fresh' (Kd.S_lt (KS_ HO110.out)) k_ hk, Kd.fresh' (Kd.S_lt (KS_ HO113.out)) k_ hk, Kd.freshB (g := gb101) (o := .cells #[.int .i64 a0_0, .int .i64 a0_1, .slice (some ad103) l0_2.length c0_2] 28 (0, 0)) (KB_ BK101.out) k_ hk, Kd.freshB (g := gb102) (o := .cells #[.int .i64 x103000_1, .int .i64 x103001_1, .slice Ao23 x103002_1.length co23] 28 (0, 0)) (KB_ BK102.out) k_ hk⟩) _ (Nat.le_refl _)) (Below.refl _ _) (Nat.le_refl _) (by simp) ?_; (case hd => rfl); (case hg => rfl); (case hr => first | (go_simp; done) | (go_simp; rfl)); (case hp => exact (Reps.one (show Kd.FK (Kd.slice 2 (Kd.int .i64)) _ _ (rI_ l0_2 x11_1) [.slice A103_0 (rI_ l0_2 x11_1).length c103_0] from (Kd.FK_slice_mk (Kd.V_reads' (Kd.V_mono (ok' := (fun k_ => ((P0_2_ k_ ∨ P1_2_ k_) ∨ w.heap.size ≤ k_) ∧ some k_ ≠ (v109 : Value).ownBlock ∧ some k_ ≠ (v112 : Value).ownBlock ∧ k_ ≠ gb101 ∧ k_ ≠ gb102)) (HL103_0.out) (fun k_ hk => ⟨hk.1.1.1, ⟨hk.1.2, ⟨hk.2, ⟨hk.1.1.2.2.1, hk.1.1.2.2.2⟩⟩⟩⟩))).2.1 (Kd.V_F (Kd.V_mono (ok' := (fun k_ => ((P0_2_ k_ ∨ P1_2_ k_) ∨ w.heap.size ≤ k_) ∧ some k_ ≠ (v109 : Value).ownBlock ∧ some k_ ≠ (v112 : Value).ownBlock ∧ k_ ≠ gb101 ∧ k_ ≠ gb102)) (HL103_0.out) (fun k_ hk => ⟨hk.1.1.1, ⟨hk.1.2, ⟨hk.2, ⟨hk.1.1.2.2.1, hk.1.1.2.2.2⟩⟩⟩⟩))))) (Reps.none _ _)))
      intro v115 w30 ho31 hb hg_ hnew_
      clear hg_ hnew_
      (first | rw [← Ny114.out] at ho31 | (simp only [Int.reduceToNat] at ho31; rw [← Ny114.out] at ho31))
      replace HO_9 := Zz.mk (Kd.V_elder' (by refine VW_ ?_; exact HO_9.out) (by first | exact Kd.N_base ho31 | exact Kd.S_base ho31) hb)
      replace HO_102002 := Zz.mk (Kd.V_elder' (by refine VW_ ?_; exact HO_102002.out) (by first | exact Kd.N_base ho31 | exact Kd.S_base ho31) hb)
      replace HO_103002 := Zz.mk (Kd.V_elder' (by refine VW_ ?_; exact HO_103002.out) (by first | exact Kd.N_base ho31 | exact Kd.S_base ho31) hb)
      replace HL103_0 := Zz.mk (Kd.V_elder' (by refine VW_ ?_; exact HL103_0.out) (by first | exact Kd.N_base ho31 | exact Kd.S_base ho31) hb)
      replace HO110 := Zz.mk (Kd.S_elder' (KS_ HO110.out) (by first | exact Kd.N_base ho31 | exact Kd.S_base ho31) hb)
      replace HO113 := Zz.mk (Kd.S_elder' (KS_ HO113.out) (by first | exact Kd.N_base ho31 | exact Kd.S_base ho31) hb)
      have HO116 := Zz.mk (Kd.N_lower ho31 (bS_ (B2_ HB.out GE101.out GE102.out)))
      replace BK101 := Zz.mk (kb_ BK101.out hb)
      replace BK102 := Zz.mk (kb_ BK102.out hb)
      replace HB := Zz.mk (bT_ (B2_ HB.out GE101.out GE102.out) hb)
      clear hb ho31
      refine hK.out _ _ (Z3_ BK102.out) (fun hHeld => ?_)
      clear hK K
      refine NM_ (N := (some 32)) (h := ?_)
      exact qCn (by simp only [qBr, Act.put, List.setIfInBounds_toArray, List.set_cons_zero, List.set_cons_succ]) (hCont (v112, v115) _ ⟨hHeld, (by refine VW_ ?_; exact Kd.V_mono HL103_0.out (fun _ hk => pj_ hk)), (by refine SW_ ?_; exact Kd.S_mono HO110.out (fun _ hk => ⟨hk.1.1, ⟨hk.1.2, hk.2⟩⟩)), (by refine SW_ ?_; exact Kd.S_mono HO113.out (fun _ hk => ⟨hk.1.1.1, ⟨hk.1.2, hk.2⟩⟩)), (KN_ HO116.out), (by refine VW_ ?_; exact Kd.V_mono HO_102002.out (fun _ hk => pj_ hk)), (by refine VW_ ?_; exact Kd.V_mono HO_103002.out (fun _ hk => pj_ hk)), (by refine VW_ ?_; exact Kd.V_mono HO_9.out (fun _ hk => pj_ hk)), (KB_ BK101.out), (KB_ BK102.out), (B2_ HB.out GE101.out GE102.out)⟩)
     skip
     refine Kd.N_lit_step (Kd.slice 2 (Kd.int .i64)) _ 40 ?hg (N' := 32) ?hd (xs := ([rI_ l0_2 x11_1] : List (List Int))) (inner := [.slice A103_0 (rI_ l0_2 x11_1).length c103_0]) (ok := (fun k_ => ((P0_2_ k_ ∨ P1_2_ k_) ∨ w.heap.size ≤ k_) ∧ some k_ ≠ (v109 : Value).ownBlock ∧ k_ ≠ gb101 ∧ k_ ≠ gb102)) (okp := (fun k_ => ((P0_2_ k_ ∨ P1_2_ k_) ∨ w.heap.size ≤ k_) ∧ some k_ ≠ (v109 : Value).ownBlock ∧ k_ ≠ gb101 ∧ k_ ≠ gb102)) ?hr ?hp (fun _ hk => hk) ((show ∀ k_, w28.heap.size ≤ k_ → (fun k_ => ((P0_2_ k_ ∨ P1_2_ k_) ∨ w.heap.size ≤ k_) ∧ some k_ ≠ (v109 : Value).ownBlock ∧ k_ ≠ gb101 ∧ k_ ≠ gb102) k_ from fun k_ hk => ⟨(.inr (Nat.le_trans (bS_ (B2_ HB.out GE101.out GE102.out)) hk)), Kd.fresh' (Kd.S_lt (KS_ HO110.out)) k_ hk, Kd.freshB (g := gb101) (o := .cells #[.int .i64 a0_0, .int .i64 a0_1, .slice (some ad103) l0_2.length c0_2] 28 (0, 0)) (KB_ BK101.out) k_ hk, Kd.freshB (g := gb102) (o := .cells #[.int .i64 x103000_1, .int .i64 x103001_1, .slice Ao23 x103002_1.length co23] 28 (0, 0)) (KB_ BK102.out) k_ hk⟩) _ (Nat.le_refl _)) (Below.refl _ _) (Nat.le_refl _) (by simp) ?_; (case hd => rfl); (case hg => rfl); (case hr => first | (go_simp; done) | (go_simp; rfl)); (case hp => exact (Reps.one (show Kd.FK (Kd.slice 2 (Kd.int .i64)) _ _ (rI_ l0_2 x11_1) [.slice A103_0 (rI_ l0_2 x11_1).length c103_0] from (Kd.FK_slice_mk (Kd.V_reads' (Kd.V_mono (ok' := (fun k_ => ((P0_2_ k_ ∨ P1_2_ k_) ∨ w.heap.size ≤ k_) ∧ some k_ ≠ (v109 : Value).ownBlock ∧ k_ ≠ gb101 ∧ k_ ≠ gb102)) (HL103_0.out) (fun k_ hk => ⟨hk.1.1, ⟨hk.2, ⟨hk.1.2.2.1, hk.1.2.2.2⟩⟩⟩))).2.1 (Kd.V_F (Kd.V_mono (ok' := (fun k_ => ((P0_2_ k_ ∨ P1_2_ k_) ∨ w.heap.size ≤ k_) ∧ some k_ ≠ (v109 : Value).ownBlock ∧ k_ ≠ gb101 ∧ k_ ≠ gb102)) (HL103_0.out) (fun k_ hk => ⟨hk.1.1, ⟨hk.2, ⟨hk.1.2.2.1, hk.1.2.2.2⟩⟩⟩))))) (Reps.none _ _)))
     intro v115 w29 ho30 hb hg_ hnew_
     clear hg_ hnew_
     (first | rw [← Ny114.out] at ho30 | (simp only [Int.reduceToNat] at ho30; rw [← Ny114.out] at ho30))
     replace HO_9 := Zz.mk (Kd.V_elder' (by refine VW_ ?_; exact HO_9.out) (by first | exact Kd.N_base ho30 | exact Kd.S_base ho30) hb)
     replace HO_102002 := Zz.mk (Kd.V_elder' (by refine VW_ ?_; exact HO_102002.out) (by first | exact Kd.N_base ho30 | exact Kd.S_base ho30) hb)
     replace HO_103002 := Zz.mk (Kd.V_elder' (by refine VW_ ?_; exact HO_103002.out) (by first | exact Kd.N_base ho30 | exact Kd.S_base ho30) hb)
     replace HL103_0 := Zz.mk (Kd.V_elder' (by refine VW_ ?_; exact HL103_0.out) (by first | exact Kd.N_base ho30 | exact Kd.S_base ho30) hb)
     replace HO110 := Zz.mk (Kd.S_elder' (KS_ HO110.out) (by first | exact Kd.N_base ho30 | exact Kd.S_base ho30) hb)
     have HO116 := Zz.mk (Kd.N_lower ho30 (bS_ (B2_ HB.out GE101.out GE102.out)))
     replace BK101 := Zz.mk (kb_ BK101.out hb)
     replace BK102 := Zz.mk (kb_ BK102.out hb)
     replace HB := Zz.mk (bT_ (B2_ HB.out GE101.out GE102.out) hb)
     clear hb ho30
     refine hK.out _ _ (Z3_ BK102.out) (fun hHeld => ?_)
     clear hK K
     refine NM_ (N := (some 32)) (h := ?_)
     refine one_ (i := 6) (N := some 30) (tb_ 12 511) rfl rfl (qAs HT_.out (by kernel_rfl)) (by decide) (fun K hK => ?_)
     refine GO_ Try.func92 #[.slice Ao23 x103002_1.length co23] (h := ?_)
     with_reducible refine (z92.calls k1 _ _ x103002_1 t111 _ ?side1 ?side2 A18.out).mono ?_
     (case side1 => exact KC_ (Kd.V_reads' HO_103002.out).2.2)
     (case side2 => exact (Kd.V_reads' HO_103002.out).2.1)
     rintro e w31 ⟨v112, rfl, ho0, hb⟩
     refine ⟨_, rfl, ?_⟩
     have HO113 := Zz.mk (Kd.S_lower (Kd.S_new' (Kd.S_new' (Kd.S_newM (M := fun k_ => (w.heap.size ≤ k_)) ho0 (bS_ (B2_ HB.out GE101.out GE102.out)) (fun k_ h_ => h_)) (Kd.S_lt (KS_ HO110.out))) (Kd.N_lt (KN_ HO116.out))) (bS_ (B2_ HB.out GE101.out GE102.out)))
     replace HO_9 := Zz.mk (Kd.V_elder' (by refine VW_ ?_; exact HO_9.out) (Kd.S_base ho0) hb)
     replace HO_102002 := Zz.mk (Kd.V_elder' (by refine VW_ ?_; exact HO_102002.out) (Kd.S_base ho0) hb)
     replace HO_103002 := Zz.mk (Kd.V_elder' (by refine VW_ ?_; exact HO_103002.out) (Kd.S_base ho0) hb)
     replace HL103_0 := Zz.mk (Kd.V_elder' (by refine VW_ ?_; exact HL103_0.out) (Kd.S_base ho0) hb)
     replace HO110 := Zz.mk (Kd.S_elder' (KS_ HO110.out) (Kd.S_base ho0) hb)
     replace HO116 := Zz.mk (Kd.N_elder' (KN_ HO116.out) (Kd.S_base ho0) hb)
     replace BK101 := Zz.mk (kb_ BK101.out hb)
     replace BK102 := Zz.mk (kb_ BK102.out hb)
     replace HB := Zz.mk (bT_ (B2_ HB.out GE101.out GE102.out) hb)
     (try clear hb);(try clear hk);(try clear ho0)
     refine hK.out _ _ (Z3_ BK102.out) (fun hHeld => ?_)
     clear hK K
     refine NM_ (N := (some 30)) (h := ?_)
     exact qCn (by simp only [qBr, Act.put, List.setIfInBounds_toArray, List.set_cons_zero, List.set_cons_succ]) (hCont (v112, v115) _ ⟨hHeld, (by refine VW_ ?_; exact Kd.V_mono HL103_0.out (fun _ hk => pj_ hk)), (by refine SW_ ?_; exact Kd.S_mono HO110.out (fun _ hk => ⟨hk.1.1, ⟨hk.2, hk.1.2⟩⟩)), (by refine SW_ ?_; exact Kd.S_mono HO113.out (fun _ hk => ⟨hk.1.1.1, ⟨hk.1.2, hk.2⟩⟩)), (by refine NW_ ?_; exact Kd.N_mono HO116.out (fun _ hk => pj_ hk)), (by refine VW_ ?_; exact Kd.V_mono HO_102002.out (fun _ hk => pj_ hk)), (by refine VW_ ?_; exact Kd.V_mono HO_103002.out (fun _ hk => pj_ hk)), (by refine VW_ ?_; exact Kd.V_mono HO_9.out (fun _ hk => pj_ hk)), (KB_ BK101.out), (KB_ BK102.out), (B2_ HB.out GE101.out GE102.out)⟩)
    rintro ⟨v112, v115⟩ w32 ⟨hS_, h0_, h1_, h2_, h3_, h4_, h5_, h6_, h7_, h8_, h9_⟩
    have HO113 : Zz (Kd.S (Kd.slice 2 (Kd.int .i64)) 40 w32 w.heap.size (fun k_ => (w.heap.size ≤ k_) ∧ some k_ ≠ (v109 : Value).ownBlock ∧ some k_ ≠ (v115 : Value).ownBlock) v112 t111) := ⟨h2_⟩
    have HO116 : Zz (Kd.N (Kd.slice 2 (Kd.int .i64)) 40 w32 w.heap.size (fun k_ => ((P0_2_ k_ ∨ P1_2_ k_) ∨ w.heap.size ≤ k_) ∧ some k_ ≠ (v109 : Value).ownBlock ∧ some k_ ≠ (v112 : Value).ownBlock ∧ k_ ≠ gb101 ∧ k_ ≠ gb102) v115 y114) := ⟨h3_⟩
    replace HL103_0 : Zz (Kd.V (Kd.int .i64) 2 w32 w.heap.size (fun k_ => ((P0_2_ k_ ∨ P1_2_ k_) ∨ w.heap.size ≤ k_) ∧ some k_ ≠ (v109 : Value).ownBlock ∧ some k_ ≠ (v112 : Value).ownBlock ∧ some k_ ≠ (v115 : Value).ownBlock ∧ k_ ≠ gb101 ∧ k_ ≠ gb102) (.slice A103_0 (rI_ l0_2 x11_1).length c103_0) (rI_ l0_2 x11_1)) := ⟨h0_⟩
    replace HO110 : Zz (Kd.S (Kd.slice 2 (Kd.int .i64)) 40 w32 w.heap.size (fun k_ => (w.heap.size ≤ k_) ∧ some k_ ≠ (v112 : Value).ownBlock ∧ some k_ ≠ (v115 : Value).ownBlock) v109 y108) := ⟨h1_⟩
    replace HO_102002 : Zz (Kd.V (Kd.slice 2 (Kd.int .i64)) 40 w32 w.heap.size (fun k_ => ((P0_2_ k_ ∨ P1_2_ k_) ∨ w.heap.size ≤ k_) ∧ some k_ ≠ (v109 : Value).ownBlock ∧ some k_ ≠ (v112 : Value).ownBlock ∧ some k_ ≠ (v115 : Value).ownBlock ∧ k_ ≠ gb101 ∧ k_ ≠ gb102) (.slice (some ad103) l0_2.length c0_2) l0_2) := ⟨h4_⟩
    replace HO_103002 : Zz (Kd.V (Kd.slice 2 (Kd.int .i64)) 40 w32 w.heap.size (fun k_ => ((P0_2_ k_ ∨ P1_2_ k_) ∨ w.heap.size ≤ k_) ∧ some k_ ≠ (v109 : Value).ownBlock ∧ some k_ ≠ (v112 : Value).ownBlock ∧ some k_ ≠ (v115 : Value).ownBlock ∧ k_ ≠ gb101 ∧ k_ ≠ gb102) (.slice Ao23 x103002_1.length co23) x103002_1) := ⟨h5_⟩
    replace HO_9 : Zz (Kd.V (Kd.slice 2 (Kd.int .i64)) 40 w32 w.heap.size (fun k_ => ((P0_2_ k_ ∨ P1_2_ k_) ∨ w.heap.size ≤ k_) ∧ some k_ ≠ (v109 : Value).ownBlock ∧ some k_ ≠ (v112 : Value).ownBlock ∧ some k_ ≠ (v115 : Value).ownBlock ∧ k_ ≠ gb101 ∧ k_ ≠ gb102) (.slice (some ad103) l0_2.length c0_2) l0_2) := ⟨h6_⟩
    replace BK101 : Zz (w32.heap[gb101]? = some (.cells #[.int .i64 a0_0, .int .i64 a0_1, .slice (some ad103) l0_2.length c0_2] 28 (0, 0))) := ⟨h7_⟩
    replace BK102 : Zz (w32.heap[gb102]? = some (.cells #[.int .i64 x103000_1, .int .i64 x103001_1, .slice Ao23 x103002_1.length co23] 28 (0, 0))) := ⟨h8_⟩
    replace HB : Zz (Below w.heap.size w w32) := ⟨h9_⟩
    (try clear h0_)
    (try clear h1_)
    (try clear h2_)
    (try clear h3_)
    (try clear h4_)
    (try clear h5_)
    (try clear h6_)
    (try clear h7_)
    (try clear h8_)
    (try clear h9_)
    have hHeld : w32.cell? ⟨gb102, 0, none⟩ = some (.int .i64 x103000_1) ∧ w32.cell? ⟨gb102, 1, none⟩ = some (.int .i64 x103001_1) ∧ w32.cell? ⟨gb102, 2, none⟩ = some (.slice Ao23 x103002_1.length co23) := hS_
    obtain ⟨Ao34, co34, eo34⟩ := Kd.N_slice HO116.out
    (first | subst eo34 | obtain ⟨rfl, rfl⟩ := sl_ eo34)
    refine qCn (a' := ?_) ?_ ?_
    rotate_left
    ·simp only [qBr, Act.put, List.setIfInBounds_toArray, List.set_cons_zero, List.set_cons_succ]
     rfl
    refine one_ (i := 9) (N := some 33) (tb_ 12 1023) rfl rfl (qAs HT_.out (by kernel_rfl)) (by decide) (fun K hK => ?_)
    refine Kd.N_append_rows_step (Kd.slice 2 (Kd.int .i64)) (w0 := w) w.heap.size (by rfl) (.tmp 30) (.tmp 32) 22 40 (.slice none 0 0) 24 rfl Try.underlying22 qBs rfl (by decide) (by omega) v112 t111 y114 _ _ _ (fun k_ => ((P0_2_ k_ ∨ P1_2_ k_) ∨ w.heap.size ≤ k_) ∧ some k_ ≠ (v109 : Value).ownBlock ∧ k_ ≠ gb101 ∧ k_ ≠ gb102) (fun k_ => ((fun k_ => ((P0_2_ k_ ∨ P1_2_ k_) ∨ w.heap.size ≤ k_) ∧ some k_ ≠ (v109 : Value).ownBlock ∧ k_ ≠ gb101 ∧ k_ ≠ gb102)) k_ ∧ some k_ ≠ (v112 : Value).ownBlock) rfl rfl ?aO ?aR (fun _ hk => hk) ?aF ?aB ?aS ?aL ?_
    (case aR => exact (by skip; exact Kd.N_F (Kd.N_mono (ok' := (fun k_ => ((fun k_ => ((P0_2_ k_ ∨ P1_2_ k_) ∨ w.heap.size ≤ k_) ∧ some k_ ≠ (v109 : Value).ownBlock ∧ k_ ≠ gb101 ∧ k_ ≠ gb102)) k_ ∧ some k_ ≠ (v112 : Value).ownBlock)) (HO116.out) (fun k_ hk => ⟨⟨hk.1, ⟨hk.2.1, ⟨hk.2.2.2.1, hk.2.2.2.2⟩⟩⟩, hk.2.2.1⟩))))
    (case aB => exact (B2_ HB.out GE101.out GE102.out))
    (case aF => exact (fun k_ hk => ⟨(.inr (Nat.le_trans (bS_ (B2_ HB.out GE101.out GE102.out)) hk)), Kd.fresh' (Kd.S_lt (KS_ HO110.out)) k_ hk, Kd.freshB (g := gb101) (o := .cells #[.int .i64 a0_0, .int .i64 a0_1, .slice (some ad103) l0_2.length c0_2] 28 (0, 0)) (KB_ BK101.out) k_ hk, Kd.freshB (g := gb102) (o := .cells #[.int .i64 x103000_1, .int .i64 x103001_1, .slice Ao23 x103002_1.length co23] 28 (0, 0)) (KB_ BK102.out) k_ hk⟩))
    (case aO => exact (by refine SW_ ?_; (first | exact Kd.S_mono (Kd.S_types (Kd.S_types HO113.out BK101.out (by decide)) BK102.out (by decide)) (fun _ hk => ⟨hk.1.1.1, ⟨hk.1.1.2.1, ⟨hk.1.2, hk.2⟩⟩⟩) | exact Kd.N_mono (Kd.S_N (Kd.S_types (Kd.S_types HO113.out BK101.out (by decide)) BK102.out (by decide))) (fun _ hk => (And.intro hk.1.1.1 (And.intro hk.1.1.2.1 (And.intro hk.1.2 hk.2)))) | exact Kd.N_mono (Kd.S_N (Kd.S_bound (Kd.S_types (Kd.S_types HO113.out BK101.out (by decide)) BK102.out (by decide)))) (fun _ hk => And.intro (.inr hk.2.1) ((And.intro hk.1.1.1.2.1 (And.intro hk.1.1.2 hk.1.2)))))))
    (case aS => exact (bS_ (B2_ HB.out GE101.out GE102.out)))
    (case aL => have := LMc19.out; omega)
    intro v118 w33 ho hb hg hat
    rw [← Ny117.out] at ho
    replace HO_9 := Zz.mk (Kd.V_afterv (ok := (fun k_ => ((P0_2_ k_ ∨ P1_2_ k_) ∨ w.heap.size ≤ k_) ∧ some k_ ≠ (v109 : Value).ownBlock ∧ some k_ ≠ (.slice Ao34 y114.length co34 : Value).ownBlock ∧ k_ ≠ gb101 ∧ k_ ≠ gb102)) (by refine VW_ ?_; exact Kd.V_mono HO_9.out (fun _ hk => pj_ hk)) hg hat)
    replace HO_102002 := Zz.mk (Kd.V_afterv (ok := (fun k_ => ((P0_2_ k_ ∨ P1_2_ k_) ∨ w.heap.size ≤ k_) ∧ some k_ ≠ (v109 : Value).ownBlock ∧ some k_ ≠ (.slice Ao34 y114.length co34 : Value).ownBlock ∧ k_ ≠ gb101 ∧ k_ ≠ gb102)) (by refine VW_ ?_; exact Kd.V_mono HO_102002.out (fun _ hk => pj_ hk)) hg hat)
    replace HO_103002 := Zz.mk (Kd.V_afterv (ok := (fun k_ => ((P0_2_ k_ ∨ P1_2_ k_) ∨ w.heap.size ≤ k_) ∧ some k_ ≠ (v109 : Value).ownBlock ∧ some k_ ≠ (.slice Ao34 y114.length co34 : Value).ownBlock ∧ k_ ≠ gb101 ∧ k_ ≠ gb102)) (by refine VW_ ?_; exact Kd.V_mono HO_103002.out (fun _ hk => pj_ hk)) hg hat)
    replace BK101 := Zz.mk (qAy (g := gb101) (o := .cells #[.int .i64 a0_0, .int .i64 a0_1, .slice (some ad103) l0_2.length c0_2] 28 (0, 0)) (KB_ BK101.out) hg (Kd.S_ne HO113.out BK101.out (by decide)))
    replace BK102 := Zz.mk (qAy (g := gb102) (o := .cells #[.int .i64 x103000_1, .int .i64 x103001_1, .slice Ao23 x103002_1.length co23] 28 (0, 0)) (KB_ BK102.out) hg (Kd.S_ne HO113.out BK102.out (by decide)))
    replace HL103_0 := Zz.mk (Kd.V_afterv (ok := (fun k_ => ((P0_2_ k_ ∨ P1_2_ k_) ∨ w.heap.size ≤ k_) ∧ some k_ ≠ (v109 : Value).ownBlock ∧ some k_ ≠ (.slice Ao34 y114.length co34 : Value).ownBlock ∧ k_ ≠ gb101 ∧ k_ ≠ gb102)) (by refine VW_ ?_; exact Kd.V_mono HL103_0.out (fun _ hk => pj_ hk)) hg hat)
    replace HO110 := Zz.mk (Kd.S_after (ok := (fun k_ => (w.heap.size ≤ k_) ∧ some k_ ≠ (.slice Ao34 y114.length co34 : Value).ownBlock)) (by refine SW_ ?_; exact Kd.S_mono HO110.out (fun _ hk => ⟨⟨hk.1, hk.2.2⟩, hk.2.1⟩)) hg hat)
    replace HO116 := Zz.mk (Kd.N_afterv (ok := (fun k_ => ((P0_2_ k_ ∨ P1_2_ k_) ∨ w.heap.size ≤ k_) ∧ some k_ ≠ (v109 : Value).ownBlock ∧ k_ ≠ gb101 ∧ k_ ≠ gb102)) (by refine NW_ ?_; exact Kd.N_mono HO116.out (fun _ hk => pj_ hk)) hg hat)
    replace HB := Zz.mk (hb)
    have HO119 := Zz.mk (ho)
    clear HO113
    clear ho hb hg hat
    obtain ⟨Ao35, co35, eo35⟩ := Kd.N_slice HO119.out
    (first | subst eo35 | obtain ⟨rfl, rfl⟩ := sl_ eo35)
    refine hK.out _ _ (Z3_ BK102.out) (fun hHeld => ?_)
    clear hK K
    refine NM_ (N := (some 33)) (h := ?_)
    refine one_ (i := 10) (N := some 34) (tb_ 12 2047) rfl rfl (qAs HT_.out (by kernel_rfl)) (by decide) (fun K hK => ?_)
    refine GO_ Try.func76 #[.int .i64 x103000_1, .int .i64 x103001_1, .slice Ao35 y117.length co35] (h := ?_)
    with_reducible refine (z76.calls k1 x103000_1 x103001_1 _ _ y117 t120 t121 t122 _ ?side1 ?side2 A20.out).mono ?_
    (case side1 => exact KC_ (Kd.N_reads' HO119.out).2.2)
    (case side2 => exact (Kd.N_reads' HO119.out).2.1)
    rintro e w36 ⟨v123, rfl, ho0, hb⟩
    refine ⟨_, rfl, ?_⟩
    have HO124 := Zz.mk (Kd.S_lower (Kd.S_new' (Kd.S_new' (Kd.S_new' (Kd.S_newM (M := fun k_ => (w.heap.size ≤ k_)) ho0 (bS_ (B2_ HB.out GE101.out GE102.out)) (fun k_ h_ => h_)) (Kd.S_lt (KS_ HO110.out))) (Kd.N_lt (KN_ HO116.out))) (Kd.N_lt (KN_ HO119.out))) (bS_ (B2_ HB.out GE101.out GE102.out)))
    replace HO_9 := Zz.mk (Kd.V_elder' (by refine VW_ ?_; exact HO_9.out) (Kd.S_base ho0) hb)
    replace HO_102002 := Zz.mk (Kd.V_elder' (by refine VW_ ?_; exact HO_102002.out) (Kd.S_base ho0) hb)
    replace HO_103002 := Zz.mk (Kd.V_elder' (by refine VW_ ?_; exact HO_103002.out) (Kd.S_base ho0) hb)
    replace HL103_0 := Zz.mk (Kd.V_elder' (by refine VW_ ?_; exact HL103_0.out) (Kd.S_base ho0) hb)
    replace HO110 := Zz.mk (Kd.S_elder' (KS_ HO110.out) (Kd.S_base ho0) hb)
    replace HO116 := Zz.mk (Kd.N_elder' (KN_ HO116.out) (Kd.S_base ho0) hb)
    replace HO119 := Zz.mk (Kd.N_elder' (KN_ HO119.out) (Kd.S_base ho0) hb)
    replace BK101 := Zz.mk (kb_ BK101.out hb)
    replace BK102 := Zz.mk (kb_ BK102.out hb)
    replace HB := Zz.mk (bT_ (B2_ HB.out GE101.out GE102.out) hb)
    (try clear hb);(try clear hk);(try clear ho0)
    obtain ⟨Ao39, co39, eo39⟩ := Kd.S_slice HO124.out
    (first | subst eo39 | obtain ⟨rfl, rfl⟩ := sl_ eo39)
    refine hK.out _ _ (Z3_ BK102.out) (fun hHeld => ?_)
    clear hK K
    refine NM_ (N := (some 34)) (h := ?_)
    refine qFt (i := 11) (N := none) (tb_ 12 4095) rfl rfl (qAs HT_.out (by kernel_rfl)) (by decide) (fun K hK => ?_)
    have hs37 : w36.cell? ⟨gb102, 0, none⟩ = some (.int .i64 x103000_1) := (bC_ BK102.out 0).trans rfl
    have hfs37 := bF_ BK102.out 0
    have hns37_0 := NB101_102.out
    have hms37_0 := NB102_101.out
    have hs38 : w36.cell? ⟨gb102, 1, none⟩ = some (.int .i64 x103001_1) := (bC_ BK102.out 1).trans rfl
    have hfs38 := bF_ BK102.out 1
    have hns38_0 := NB101_102.out
    have hms38_0 := NB102_101.out
    have hs40 : w36.cell? ⟨gb102, 2, none⟩ = some (.slice Ao23 x103002_1.length co23) := (bC_ BK102.out 2).trans rfl
    have hfs40 := bF_ BK102.out 2
    have hns40_0 := NB101_102.out
    have hms40_0 := NB102_101.out
    refine qEy (w1 := ?_) (by rfl) rfl ?_ ?_
    rotate_left
    ·go_simp
     rfl
    refine hK.out _ _ ?_
    clear hK K
    refine qB0 (qA4 HT_.out (by kernel_rfl)) ?_
    try go_wp2
    go_roundg k1
    case measure => exact Q1_ HK1
    case rel => exact ⟨(y108), (wrap64 (x11_1 + 1)), (t120), (t121), (t122), (.slice Ao39 t122.length co39), E_, H', ⟨Q1_ HK1⟩, ⟨by refine SW_ ?_; exact Kd.S_mono (Kd.S_far (p := ⟨gb102, 2, none⟩) (Kd.S_far (p := ⟨gb102, 1, none⟩) (Kd.S_far (p := ⟨gb102, 0, none⟩) (Kd.S_types HO110.out BK102.out (by decide)) (fun _ hk => hk.2) (.int .i64 t120)) (fun _ hk => hk.2) (.int .i64 t121)) (fun _ hk => hk.2) (.slice Ao39 t122.length co39)) (fun _ hk => hk.1.1.1.1)⟩, ⟨by refine VW_ ?_; exact Kd.V_mono (Kd.V_far (p := ⟨gb102, 2, none⟩) (Kd.V_far (p := ⟨gb102, 1, none⟩) (Kd.V_far (p := ⟨gb102, 0, none⟩) (Kd.V_mono HO_9.out (fun k_ hk => (⟨hk, hk.1.1.2.2.2.2⟩ : _ ∧ k_ ≠ gb102))) (fun _ hk => hk.2) (.int .i64 t120)) (fun _ hk => hk.2) (.int .i64 t121)) (fun _ hk => hk.2) (.slice Ao39 t122.length co39)) (fun _ hk => pj_ hk)⟩, ⟨by refine VW_ ?_; exact Kd.V_mono (Kd.V_far (p := ⟨gb102, 2, none⟩) (Kd.V_far (p := ⟨gb102, 1, none⟩) (Kd.V_far (p := ⟨gb102, 0, none⟩) (Kd.V_mono HO_102002.out (fun k_ hk => (⟨hk, hk.1.1.2.2.2.2⟩ : _ ∧ k_ ≠ gb102))) (fun _ hk => hk.2) (.int .i64 t120)) (fun _ hk => hk.2) (.int .i64 t121)) (fun _ hk => hk.2) (.slice Ao39 t122.length co39)) (fun _ hk => pj_ hk)⟩, ⟨Kd.V_mono (Kd.S_V (by refine SW_ ?_; exact Kd.S_mono (Kd.S_far (p := ⟨gb102, 2, none⟩) (Kd.S_far (p := ⟨gb102, 1, none⟩) (Kd.S_far (p := ⟨gb102, 0, none⟩) (Kd.S_types (Kd.S_types (Kd.S_types HO124.out BK101.out (by decide)) BK102.out (by decide)) BK102.out (by decide)) (fun _ hk => hk.2) (.int .i64 t120)) (fun _ hk => hk.2) (.int .i64 t121)) (fun _ hk => hk.2) (.slice Ao39 t122.length co39)) (fun _ hk => (And.intro hk.1.1.1.1.1.1.1 (And.intro hk.1.1.1.1.1.2 (And.intro hk.1.1.2 hk.1.2)))))) (fun k_ hk => by first | exact ⟨(.inr (hk.1)), hk.2⟩ | exact (.inr (hk)))⟩, ⟨by refine BW_ ?_; refine bR_ ?_ NB101_102.out _; refine BW_ ?_; refine bR_ ?_ NB101_102.out _; refine BW_ ?_; refine bR_ ?_ NB101_102.out _; refine BW_ ?_; exact BK101.out⟩, ⟨by refine BW_ ?_; refine bP_ (cs := #[.int .i64 t120, .int .i64 t121, .slice Ao23 x103002_1.length co23]) ?_ 2 _ rfl; refine BW_ ?_; refine bP_ (cs := #[.int .i64 t120, .int .i64 x103001_1, .slice Ao23 x103002_1.length co23]) ?_ 1 _ rfl; refine BW_ ?_; refine bP_ (cs := #[.int .i64 x103000_1, .int .i64 x103001_1, .slice Ao23 x103002_1.length co23]) ?_ 0 _ rfl; refine BW_ ?_; exact BK102.out⟩, ⟨B2_ HB.out GE101.out GE102.out⟩⟩
   rw [if_neg c7] at H
   have c7b0 : decide (x11_1 < (l0_2.length : Int)) = false := decide_eq_false c7
   clear c7
   obtain rfl := OI_ H
   go_wp2
   go_ret
   exact ⟨_, F_, KS_ HO_5.out, B2_ HB.out GE101.out GE102.out⟩
end Go.Proofs.Ytkgajpngeglkmaa.B
