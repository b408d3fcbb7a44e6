/- Printed proofs of functions of the program and of the reference, by a program of this work over the kit's printer. -/
import Derived.Test.YtpgjfppbbbnclaaKLEKPEN0
import Derived.Test.YtpgjfppbbbnclaaKPJHBFI0
import Derived.Test.YtpgjfppbbbnclaaKW0
namespace Go.Proofs.Ytpgjfppbbbnclaa.B
open Go.RowKit Go.Proofs.YtpgjfppbbbnclaaW.PrintWords Go.Proofs.YtpgjfppbbbnclaaW.PrintLast Go.Proofs.YtpgjfppbbbnclaaW.PrintMore
attribute [local go_sem] qAh qAf qAl qAk qAc qAb qAg qAe
set_option linter.unusedVariables false
set_option linter.unusedSimpArgs false
def z39.l0 : Nat → List (List Int) → List (List Int) → Int → Int → Int → Int → List (List Int) → Option ((List (List Int)))
 | 0, _, _, _, _, _, _, _ => none
 | k + 1, x5, x8, x9, x10, x102000, x102001, x102002 => if x10 < x9 then (if 0 ≤ x10 then (if x10 < (x8.length : Int) then ((z59.f k x102000 x102001 x102002 (rI_ x8 x10)).bind fun t103 => (if t103 = true then (z39.l0 k x5 x8 x9 (wrap64 (x10 + 1)) x102000 x102001 x102002) else ((some (([rI_ x8 x10] : List (List Int)) : List (List Int))).bind fun y104 => (if x5.length + y104.length < 5864062014805 then ((z61.f k x102002).bind fun t110 => ((some (([rI_ x8 x10] : List (List Int)) : List (List Int))).bind fun y113 => (if t110.length + y113.length < 5864062014805 then ((z60.f k x102000 x102001 (t110 ++ y113)).bind fun bt119 => (z39.l0 k (x5 ++ y104) x8 x9 (wrap64 (x10 + 1)) bt119.1 bt119.2.1 bt119.2.2)) else (none)))) else (none))))) else (none)) else (none)) else (some x5)
def z39.f (k : Nat) (a0_0 : Int) (a0_1 : Int) (l0_2 : List (List Int)) (l1 : List (List Int)) : Option ((List (List Int))) := z39.l0 k ([] : List (List Int)) l1 (l1.length : Int) 0 a0_0 a0_1 l0_2
def z39.T7 : Bool × List (List Nat × List Nat) := (true, [([], []), ([0], [0]), ([], []), ([2], [2]), ([], []), ([4], [4]), ([5], [5]), ([], []), ([7], [7]), ([6, 8, 6], [6, 8]), ([1, 3, 9, 9], [1, 3, 9]), ([10, 10, 0, 1, 2, 3, 4, 5, 6, 7, 8, 9, 10], [10])])
def z39.B7 : List Nat := [0, 1, 0, 4, 0, 16, 48, 0, 128, 496, 1023, 2047]
theorem z39.tab7 : rtab .any (qC4 Try.f39 7) = z39.T7 := by kernel_rfl
theorem z39.bits7 : qBe z39.T7.2 z39.B7 = true := by kernel_rfl
set_option maxHeartbeats 8000000 in
set_option maxRecDepth 100000 in
theorem z39.calls (k : Nat) (a0_0 : Int) (a0_1 : Int) (P0_2_ : Nat → Prop) (A0_2 : Option Addr) (c0_2 : Nat) (l0_2 : List (List Int)) (P1_ : Nat → Prop) (A1 : Option Addr) (c1 : Nat) (l1 : List (List Int)) (r : List (List Int)) (w : World) (hs0_2 : Kd.V (Kd.slice 2 (Kd.int .i64)) 26 w w.heap.size (fun k_ => P0_2_ k_) (.slice A0_2 l0_2.length c0_2) l0_2) (hs1 : Kd.V (Kd.slice 2 (Kd.int .i64)) 26 w w.heap.size (fun k_ => P1_ k_) (.slice A1 l1.length c1) l1) (h : z39.f k a0_0 a0_1 l0_2 l1 = some r) :
  Calls Try.prog 39 #[.agg #[.int .i64 a0_0, .int .i64 a0_1, .slice A0_2 l0_2.length c0_2], .slice A1 l1.length c1] w fun e w' => ∃ v0_ : Value, e = .returned (v0_) ∧ Kd.N (Kd.slice 2 (Kd.int .i64)) 26 w' w.heap.size (fun k_ => ((P0_2_ k_ ∨ P1_ k_) ∨ w.heap.size ≤ k_)) v0_ r ∧ Below w.heap.size w w' := by
 have hu60 := Try.underlying60
 have HO0_2 := Zz.mk (show Kd.V (Kd.slice 2 (Kd.int .i64)) 26 w w.heap.size (fun k_ => ((P0_2_ k_ ∨ P1_ k_) ∨ w.heap.size ≤ k_)) (.slice A0_2 l0_2.length c0_2) l0_2 from Kd.V_mono hs0_2 (fun k_ hk => .inl (.inl hk)))
 have HO1 := Zz.mk (show Kd.V (Kd.slice 2 (Kd.int .i64)) 26 w w.heap.size (fun k_ => ((P0_2_ k_ ∨ P1_ k_) ∨ w.heap.size ≤ k_)) (.slice A1 l1.length c1) l1 from Kd.V_mono hs1 (fun k_ hk => .inl (.inr hk)))
 have HB := Zz.mk (Below.refl w.heap.size w)
 have H : (z39.l0 k ([] : List (List Int)) l1 (l1.length : Int) 0 a0_0 a0_1 l0_2) = some r := h
 clear h
 have H' := Zz.mk H
 clear H
 go_enter Try.func39, Try.ntmps39
 go_wp2_with (first | ((with_reducible refine qAm (N := 2) rfl ?_); refine bx_ 2 #[.int .i64 a0_0, .int .i64 a0_1, .slice A0_2 l0_2.length c0_2] 60 ?_; intro gb101 hg w3 hbox hb; have BK101 := Zz.mk (hbox); have GW101 := Zz.mk ((gw_ hg (B_ HB.out))); have GE101 := GW101; replace HO0_2 := Zz.mk (Kd.V_below (Kd.V_elderB (by refine VW_ ?_; exact HO0_2.out) gb101 (Nat.le_of_eq hg.symm)) hb); replace HO1 := Zz.mk (Kd.V_below (Kd.V_elderB (by refine VW_ ?_; exact HO1.out) gb101 (Nat.le_of_eq hg.symm)) hb); replace HB := Zz.mk (bT_ (B_ HB.out) hb); clear hb hbox hg))
 go_loopg [5, 10] k (fun kq v5 v10 w' => ∃ (x5_1 : List (List Int)) (x10_1 : Int) (x102000_1 : Int) (x102001_1 : Int) (x102002_1 : List (List Int)) (u102002 : Value), v10 = .int .i64 x10_1 ∧ Zz (z39.l0 kq x5_1 l1 (l1.length : Int) x10_1 x102000_1 x102001_1 x102002_1 = some r) ∧ Zz (kq ≤ k) ∧ Zz (Kd.N (Kd.slice 2 (Kd.int .i64)) 26 w' w.heap.size (fun k_ => ((P0_2_ k_ ∨ P1_ k_) ∨ w.heap.size ≤ k_) ∧ k_ ≠ gb101) v5 x5_1) ∧ Zz (Kd.V (Kd.slice 2 (Kd.int .i64)) 26 w' w.heap.size (fun k_ => ((P0_2_ k_ ∨ P1_ k_) ∨ w.heap.size ≤ k_) ∧ some k_ ≠ (v5 : Value).ownBlock ∧ k_ ≠ gb101) (.slice A1 l1.length c1) l1) ∧ Zz (Kd.V (Kd.slice 2 (Kd.int .i64)) 26 w' w.heap.size (fun k_ => ((P0_2_ k_ ∨ P1_ k_) ∨ w.heap.size ≤ k_) ∧ some k_ ≠ (v5 : Value).ownBlock ∧ k_ ≠ gb101) u102002 x102002_1) ∧ Zz (w'.heap[gb101]? = some (.cells #[.int .i64 x102000_1, .int .i64 x102001_1, u102002] 60 (0, 0))) ∧ Zz (Below w.heap.size w w'))
 case atStart => exact ⟨(([] : List (List Int))), (0), (a0_0), (a0_1), (l0_2), (.slice A0_2 l0_2.length c0_2), E_, H', ⟨Nat.le_refl _⟩, ⟨by first | exact Kd.S_nil _ _ _ _ _ | exact Kd.N_nil _ _ _ _ _ | exact Kd.V_nil _ _ _ _ _ | exact Kd.Q_nil _ _ _ _ _ | exact Kd.R_nil _ _ _ _ _⟩, ⟨by refine VW_ ?_; exact Kd.V_mono HO1.out (fun _ hk => ⟨hk.1, ⟨(by simp [Value.ownBlock]), hk.2⟩⟩)⟩, ⟨by refine VW_ ?_; exact Kd.V_mono HO0_2.out (fun _ hk => ⟨hk.1, ⟨(by simp [Value.ownBlock]), hk.2⟩⟩)⟩, ⟨KB_ BK101.out⟩, ⟨B1_ HB.out GE101.out⟩⟩
 case round =>
  clear H'
  (try clear c1)
  obtain ⟨x5_1, x10_1, x102000_1, x102001_1, x102002_1, u102002, rfl, HA, HK1, HO_5, HO_8, HO_102002, BK101, HB⟩ := hrel
  cases gk with
  | zero => exact absurd HA.out (by simp [z39.l0])
  | succ k1 =>
   have H := HA.out
   clear HA
   simp only [z39.l0] at H
   by_cases c4 : x10_1 < (l1.length : Int)
   ·rw [if_pos c4] at H
    have c4b0 : decide (x10_1 < (l1.length : Int)) = true := decide_eq_true c4
    clear c4
    have c5b0 := O3_ H
    replace H := O2_ H
    have c6b0 := O3_ H
    replace H := O2_ H
    replace H := OZ_ H
    obtain ⟨t103, A7, H⟩ := H
    by_cases c8 : t103 = true
    ·subst c8
     replace H := T_ H
     have H' := Zz.mk H
     clear H
     have p102 : 0 ≤ (x10_1 : Int) := D_
     have q102 : x10_1 < (l1.length : Int) := D_
     obtain ⟨ad102, A102_0, c102_0, e102, hx102_0, hl102_0, hi102_0⟩ := qAp (Kd.V_reads' HO_8.out).2.2 x10_1 p102 q102
     cases e102
     obtain ⟨ce102, hce102, hMe102, hcc102⟩ := Kd.V_get HO_8.out [] x10_1 p102 (by first | exact q102 | exact D_ | (have e_ := (Kd.V_reads' HO_8.out).1; omega))
     obtain ⟨ua102_0, uc102_0, rfl, ul102_0, ge102_0⟩ := Kd.FK_slice_open hMe102
     have hv102_0 := hcc102 0 _ rfl
     rw [Nat.add_zero, show ((Kd.slice 2 (Kd.int .i64))).sz = 1 from rfl, Nat.mul_one] at hv102_0
     replace hv102_0 := Option.some.inj (hv102_0.symm.trans hx102_0)
     injection hv102_0 with hva_ hvn_ hvc_
     rw [hva_] at ge102_0
     rw [hvc_] at ul102_0
     have HL102_0 := Zz.mk (show Kd.V (Kd.int .i64) 2 _ w.heap.size _ _ (rI_ l1 x10_1) from Kd.V_mk ul102_0 ge102_0)
     clear hva_ hvn_ hvc_ ge102_0 ul102_0
     clear hcc102 hce102
     have HR102_0 := Zz.mk hi102_0
     have HC102_0 := Zz.mk hl102_0
     clear hi102_0 hl102_0
     replace p102 := eq_true p102
     replace q102 := eq_true q102
     obtain ⟨hcz9_0, hcz9_1, hcz9_2, hfz9_0, hfz9_1, hfz9_2⟩ := Z3f_ BK101.out
     obtain ⟨Ao10, co10, eo10⟩ := Kd.V_slice HO_102002.out
     subst eo10
     go_wp2_with (first | ((with_reducible refine gC_ (f := 59) rfl ?_); refine GL_ (some 16) rfl rfl Try.func59 #[.agg #[.int .i64 x102000_1, .int .i64 x102001_1, .slice Ao10 x102002_1.length co10], .slice A102_0 (rI_ l1 x10_1).length c102_0] rfl (h := ?_); (with_reducible refine (z59.calls k1 x102000_1 x102001_1 _ _ x102002_1 _ _ (rI_ l1 x10_1) true _ ?side1 ?side2 ?side3 ?side4 A7.out).mono ?_); (case side1 => exact KC_ (Kd.V_reads' HO_102002.out).2.2); (case side2 => exact (Kd.V_reads' HO_102002.out).2.1); (case side3 => exact KC_ (KC_ HR102_0.out)); (case side4 => exact HC102_0.out); rintro e w11 ⟨rfl, hb⟩; refine ⟨_, rfl, ?_⟩; replace HO_5 := Zz.mk (Kd.N_below (KN_ HO_5.out) hb); replace HO_8 := Zz.mk (Kd.V_below (by refine VW_ ?_; exact HO_8.out) hb); replace HO_102002 := Zz.mk (Kd.V_below (by refine VW_ ?_; exact HO_102002.out) hb); replace HL102_0 := Zz.mk (Kd.V_below (by refine VW_ ?_; exact HL102_0.out) hb); replace BK101 := Zz.mk (kb_ BK101.out hb); replace HR102_0 := Zz.mk (Kd.C_below (KC_ HR102_0.out) hb); replace HB := Zz.mk (bT_ (B1_ HB.out GE101.out) hb); (try clear hb)))
     go_roundg k1
     case measure => exact Q1_ HK1
     case rel => exact ⟨(x5_1), (wrap64 (x10_1 + 1)), (x102000_1), (x102001_1), (x102002_1), (.slice Ao10 x102002_1.length co10), E_, H', ⟨Q1_ HK1⟩, ⟨KN_ HO_5.out⟩, ⟨by refine VW_ ?_; exact HO_8.out⟩, ⟨by refine VW_ ?_; exact HO_102002.out⟩, ⟨KB_ BK101.out⟩, ⟨B1_ HB.out GE101.out⟩⟩
    replace c8 := Bool.eq_false_iff.mpr c8
    subst c8
    replace H := N_ H
    obtain ⟨y104, hy104⟩ : ∃ y_ : List (List Int), y_ = (([rI_ l1 x10_1] : List (List Int))) := ⟨_, rfl⟩
    replace H : (if x5_1.length + y104.length < 5864062014805 then ((z61.f k1 x102002_1).bind fun t110 => ((some (([rI_ l1 x10_1] : List (List Int)) : List (List Int))).bind fun y113 => (if t110.length + y113.length < 5864062014805 then ((z60.f k1 x102000_1 x102001_1 (t110 ++ y113)).bind fun bt119 => (z39.l0 k1 (x5_1 ++ y104) l1 (l1.length : Int) (wrap64 (x10_1 + 1)) bt119.1 bt119.2.1 bt119.2.2)) else (none)))) else (none)) = some r := Y_ hy104 H
    have Ny104 := Zz.mk hy104
    clear hy104
    have c12 := O1_ H
    replace H := O2_ H
    have LMc12 := Zz.mk c12
    clear c12
    obtain ⟨y107, hy107⟩ : ∃ y_ : List (List Int), y_ = (x5_1 ++ y104) := ⟨_, rfl⟩
    replace H : ((z61.f k1 x102002_1).bind fun t110 => ((some (([rI_ l1 x10_1] : List (List Int)) : List (List Int))).bind fun y113 => (if t110.length + y113.length < 5864062014805 then ((z60.f k1 x102000_1 x102001_1 (t110 ++ y113)).bind fun bt119 => (z39.l0 k1 y107 l1 (l1.length : Int) (wrap64 (x10_1 + 1)) bt119.1 bt119.2.1 bt119.2.2)) else (none)))) = some r := Y_ hy107 H
    have Ny107 := Zz.mk hy107
    clear hy107
    replace H := OZ_ H
    obtain ⟨t110, A13, H⟩ := H
    obtain ⟨y113, hy113⟩ : ∃ y_ : List (List Int), y_ = (([rI_ l1 x10_1] : List (List Int))) := ⟨_, rfl⟩
    replace H : (if t110.length + y113.length < 5864062014805 then ((z60.f k1 x102000_1 x102001_1 (t110 ++ y113)).bind fun bt119 => (z39.l0 k1 y107 l1 (l1.length : Int) (wrap64 (x10_1 + 1)) bt119.1 bt119.2.1 bt119.2.2)) else (none)) = some r := Y_ hy113 H
    have Ny113 := Zz.mk hy113
    clear hy113
    have c14 := O1_ H
    replace H := O2_ H
    have LMc14 := Zz.mk c14
    clear c14
    obtain ⟨y116, hy116⟩ : ∃ y_ : List (List Int), y_ = (t110 ++ y113) := ⟨_, rfl⟩
    replace H : ((z60.f k1 x102000_1 x102001_1 y116).bind fun bt119 => (z39.l0 k1 y107 l1 (l1.length : Int) (wrap64 (x10_1 + 1)) bt119.1 bt119.2.1 bt119.2.2)) = some r := Y_ hy116 H
    have Ny116 := Zz.mk hy116
    clear hy116
    replace H := OB_ H
    obtain ⟨⟨t119, t120, t121⟩, A150, H⟩ := H
    try dsimp only at H
    have A15 := Zz.mk A150
    clear A150
    have H' := Zz.mk H
    clear H
    have p102 : 0 ≤ (x10_1 : Int) := D_
    have q102 : x10_1 < (l1.length : Int) := D_
    obtain ⟨ad102, A102_0, c102_0, e102, hx102_0, hl102_0, hi102_0⟩ := qAp (Kd.V_reads' HO_8.out).2.2 x10_1 p102 q102
    cases e102
    obtain ⟨ce102, hce102, hMe102, hcc102⟩ := Kd.V_get HO_8.out [] x10_1 p102 (by first | exact q102 | exact D_ | (have e_ := (Kd.V_reads' HO_8.out).1; omega))
    obtain ⟨ua102_0, uc102_0, rfl, ul102_0, ge102_0⟩ := Kd.FK_slice_open hMe102
    have hv102_0 := hcc102 0 _ rfl
    rw [Nat.add_zero, show ((Kd.slice 2 (Kd.int .i64))).sz = 1 from rfl, Nat.mul_one] at hv102_0
    replace hv102_0 := Option.some.inj (hv102_0.symm.trans hx102_0)
    injection hv102_0 with hva_ hvn_ hvc_
    rw [hva_] at ge102_0
    rw [hvc_] at ul102_0
    have HL102_0 := Zz.mk (show Kd.V (Kd.int .i64) 2 _ w.heap.size _ _ (rI_ l1 x10_1) from Kd.V_mk ul102_0 ge102_0)
    clear hva_ hvn_ hvc_ ge102_0 ul102_0
    clear hcc102 hce102
    have HR102_0 := Zz.mk hi102_0
    have HC102_0 := Zz.mk hl102_0
    clear hi102_0 hl102_0
    replace p102 := eq_true p102
    replace q102 := eq_true q102
    obtain ⟨hcz16_0, hcz16_1, hcz16_2, hfz16_0, hfz16_1, hfz16_2⟩ := Z3f_ BK101.out
    obtain ⟨Ao17, co17, eo17⟩ := Kd.V_slice HO_102002.out
    subst eo17
    try go_wp2_with (first | ((with_reducible refine gC_ (f := 59) rfl ?_); refine GL_ (some 16) rfl rfl Try.func59 #[.agg #[.int .i64 x102000_1, .int .i64 x102001_1, .slice Ao17 x102002_1.length co17], .slice A102_0 (rI_ l1 x10_1).length c102_0] rfl (h := ?_); (with_reducible refine (z59.calls k1 x102000_1 x102001_1 _ _ x102002_1 _ _ (rI_ l1 x10_1) false _ ?side1 ?side2 ?side3 ?side4 A7.out).mono ?_); (case side1 => exact KC_ (Kd.V_reads' HO_102002.out).2.2); (case side2 => exact (Kd.V_reads' HO_102002.out).2.1); (case side3 => exact KC_ (KC_ HR102_0.out)); (case side4 => exact HC102_0.out); rintro e w18 ⟨rfl, hb⟩; refine ⟨_, rfl, ?_⟩; replace HO_5 := Zz.mk (Kd.N_below (KN_ HO_5.out) hb); replace HO_8 := Zz.mk (Kd.V_below (by refine VW_ ?_; exact HO_8.out) hb); replace HO_102002 := Zz.mk (Kd.V_below (by refine VW_ ?_; exact HO_102002.out) hb); replace HL102_0 := Zz.mk (Kd.V_below (by refine VW_ ?_; exact HL102_0.out) hb); replace BK101 := Zz.mk (kb_ BK101.out hb); replace HR102_0 := Zz.mk (Kd.C_below (KC_ HR102_0.out) hb); replace HB := Zz.mk (bT_ (B1_ HB.out GE101.out) hb); (try clear hb)) | ((with_reducible refine qAm (N := 20) rfl ?_); refine Kd.N_lit (Kd.slice 2 (Kd.int .i64)) _ 26 ?hg (N' := 20) ?hd (xs := ([rI_ l1 x10_1] : List (List Int))) (inner := [.slice A102_0 (rI_ l1 x10_1).length c102_0]) (ok := (fun k_ => ((P0_2_ k_ ∨ P1_ k_) ∨ w.heap.size ≤ k_) ∧ some k_ ≠ (u5 : Value).ownBlock ∧ k_ ≠ gb101)) (okp := (fun k_ => ((P0_2_ k_ ∨ P1_ k_) ∨ w.heap.size ≤ k_) ∧ some k_ ≠ (u5 : Value).ownBlock ∧ k_ ≠ gb101)) ?hr ?hp (fun _ hk => hk) ((show ∀ k_, w18.heap.size ≤ k_ → (fun k_ => ((P0_2_ k_ ∨ P1_ k_) ∨ w.heap.size ≤ k_) ∧ some k_ ≠ (u5 : Value).ownBlock ∧ k_ ≠ gb101) k_ from fun k_ hk => ⟨(.inr (Nat.le_trans (bS_ (B1_ HB.out GE101.out)) hk)), Kd.fresh' (Kd.N_lt (KN_ HO_5.out)) k_ hk, Kd.freshB (g := gb101) (o := .cells #[.int .i64 x102000_1, .int .i64 x102001_1, .slice Ao17 x102002_1.length co17] 60 (0, 0)) (KB_ BK101.out) k_ hk⟩) _ (Nat.le_refl _)) (Below.refl _ _) (Nat.le_refl _) (by simp) ?_; (case hd => rfl); (case hg => rfl); (case hr => first | (go_simp; done) | (go_simp; rfl)); (case hp => exact (Reps.one (show Kd.FK (Kd.slice 2 (Kd.int .i64)) _ _ (rI_ l1 x10_1) [.slice A102_0 (rI_ l1 x10_1).length c102_0] from (Kd.FK_slice_mk (Kd.V_reads' (Kd.V_mono (ok' := (fun k_ => ((P0_2_ k_ ∨ P1_ k_) ∨ w.heap.size ≤ k_) ∧ some k_ ≠ (u5 : Value).ownBlock ∧ k_ ≠ gb101)) (HL102_0.out) (fun k_ hk => ⟨hk.1, ⟨hk.2.1, hk.2.2⟩⟩))).2.1 (Kd.V_F (Kd.V_mono (ok' := (fun k_ => ((P0_2_ k_ ∨ P1_ k_) ∨ w.heap.size ≤ k_) ∧ some k_ ≠ (u5 : Value).ownBlock ∧ k_ ≠ gb101)) (HL102_0.out) (fun k_ hk => ⟨hk.1, ⟨hk.2.1, hk.2.2⟩⟩))))) (Reps.none _ _))); intro v105 w19 ho20 hb hg_ hnew_; clear hg_ hnew_; (first | rw [← Ny104.out] at ho20 | (simp only [Int.reduceToNat] at ho20; rw [← Ny104.out] at ho20)); replace HO_5 := Zz.mk (Kd.N_elder' (KN_ HO_5.out) (by first | exact Kd.N_base ho20 | exact Kd.S_base ho20) hb); replace HO_8 := Zz.mk (Kd.V_elder' (by refine VW_ ?_; exact HO_8.out) (by first | exact Kd.N_base ho20 | exact Kd.S_base ho20) hb); replace HO_102002 := Zz.mk (Kd.V_elder' (by refine VW_ ?_; exact HO_102002.out) (by first | exact Kd.N_base ho20 | exact Kd.S_base ho20) hb); replace HL102_0 := Zz.mk (Kd.V_elder' (by refine VW_ ?_; exact HL102_0.out) (by first | exact Kd.N_base ho20 | exact Kd.S_base ho20) hb); have HO106 := Zz.mk (Kd.N_lower ho20 (bS_ (B1_ HB.out GE101.out))); replace BK101 := Zz.mk (kb_ BK101.out hb); replace HR102_0 := Zz.mk (Kd.C_below (KC_ HR102_0.out) hb); replace HB := Zz.mk (bT_ (B1_ HB.out GE101.out) hb); clear hb ho20; obtain ⟨Ao22, co22, eo22⟩ := Kd.N_slice HO106.out; subst eo22) | ((with_reducible refine qAv (b := .append) (xs := #[.tmp 18, .tmp 20]) rfl ?_); at_builtin; refine Kd.N_append_rows (Kd.slice 2 (Kd.int .i64)) (w0 := w) w.heap.size rfl (.tmp 18) (.tmp 20) 22 26 (.slice none 0 0) 24 rfl Try.underlying22 qDm rfl (by decide) (by omega) u5 x5_1 y104 _ _ _ (fun k_ => ((P0_2_ k_ ∨ P1_ k_) ∨ w.heap.size ≤ k_) ∧ k_ ≠ gb101) (fun k_ => ((fun k_ => ((P0_2_ k_ ∨ P1_ k_) ∨ w.heap.size ≤ k_) ∧ k_ ≠ gb101)) k_ ∧ some k_ ≠ (u5 : Value).ownBlock) rfl rfl ?aO ?aR (fun _ hk => hk) ?aF ?aB ?aS ?aL ?_; (case aR => exact (by skip; exact Kd.N_F (Kd.N_mono (ok' := (fun k_ => ((fun k_ => ((P0_2_ k_ ∨ P1_ k_) ∨ w.heap.size ≤ k_) ∧ k_ ≠ gb101)) k_ ∧ some k_ ≠ (u5 : Value).ownBlock)) (HO106.out) (fun k_ hk => ⟨⟨hk.1, hk.2.2⟩, hk.2.1⟩)))); (case aB => exact (B1_ HB.out GE101.out)); (case aF => exact (fun k_ hk => ⟨(.inr (Nat.le_trans (bS_ (B1_ HB.out GE101.out)) hk)), Kd.freshB (g := gb101) (o := .cells #[.int .i64 x102000_1, .int .i64 x102001_1, .slice Ao17 x102002_1.length co17] 60 (0, 0)) (KB_ BK101.out) k_ hk⟩)); (case aO => exact (by refine NW_ ?_; exact Kd.N_mono HO_5.out (fun _ hk => ⟨hk.1.1, hk.1.2⟩))); (case aS => exact (bS_ (B1_ HB.out GE101.out))); (case aL => have := LMc12.out; omega); intro v108 w21 ho hb hg hat; rw [← Ny107.out] at ho; replace HO_8 := Zz.mk (Kd.V_afterv (ok := (fun k_ => ((P0_2_ k_ ∨ P1_ k_) ∨ w.heap.size ≤ k_) ∧ some k_ ≠ (.slice Ao22 y104.length co22 : Value).ownBlock ∧ k_ ≠ gb101)) (by refine VW_ ?_; exact Kd.V_mono HO_8.out (fun _ hk => ⟨⟨hk.1.1, ⟨hk.2, hk.1.2.2⟩⟩, hk.1.2.1⟩)) hg hat); replace HO_102002 := Zz.mk (Kd.V_afterv (ok := (fun k_ => ((P0_2_ k_ ∨ P1_ k_) ∨ w.heap.size ≤ k_) ∧ some k_ ≠ (.slice Ao22 y104.length co22 : Value).ownBlock ∧ k_ ≠ gb101)) (by refine VW_ ?_; exact Kd.V_mono HO_102002.out (fun _ hk => ⟨⟨hk.1.1, ⟨hk.2, hk.1.2.2⟩⟩, hk.1.2.1⟩)) hg hat); replace BK101 := Zz.mk (qAy (g := gb101) (o := .cells #[.int .i64 x102000_1, .int .i64 x102001_1, .slice Ao17 x102002_1.length co17] 60 (0, 0)) (KB_ BK101.out) hg (Kd.N_ne HO_5.out BK101.out (by decide))); replace HL102_0 := Zz.mk (Kd.V_afterv (ok := (fun k_ => ((P0_2_ k_ ∨ P1_ k_) ∨ w.heap.size ≤ k_) ∧ some k_ ≠ (.slice Ao22 y104.length co22 : Value).ownBlock ∧ k_ ≠ gb101)) (by refine VW_ ?_; exact Kd.V_mono HL102_0.out (fun _ hk => ⟨⟨hk.1.1, ⟨hk.2, hk.1.2.2⟩⟩, hk.1.2.1⟩)) hg hat); replace HO106 := Zz.mk (Kd.N_afterv (ok := (fun k_ => ((P0_2_ k_ ∨ P1_ k_) ∨ w.heap.size ≤ k_) ∧ k_ ≠ gb101)) (by refine NW_ ?_; exact Kd.N_mono HO106.out (fun _ hk => ⟨⟨hk.1, hk.2.2⟩, hk.2.1⟩)) hg hat); replace HB := Zz.mk (hb); have HO109 := Zz.mk (ho); clear HO_5; clear ho hb hg hat))
    replace HO_8 := Zz.mk (Kd.V_drew HO_8.out)
    replace HO_102002 := Zz.mk (Kd.V_drew HO_102002.out)
    replace HL102_0 := Zz.mk (Kd.V_drew HL102_0.out)
    replace HO106 := Zz.mk (Kd.N_drew HO106.out)
    replace HO109 := Zz.mk (Kd.N_drew HO109.out)
    replace BK101 := Zz.mk (bD_ BK101.out)
    replace HB := Zz.mk (qAq HB.out)
    refine qBx (n := 12) (S := fun w' => w'.cell? ⟨gb101, 0, none⟩ = some (.int .i64 x102000_1) ∧ w'.cell? ⟨gb101, 1, none⟩ = some (.int .i64 x102001_1) ∧ w'.cell? ⟨gb101, 2, none⟩ = some (.slice Ao17 x102002_1.length co17)) (ds := [11]) (tb_ 12 0) (by kernel_rfl) rfl rfl (Z3_ BK101.out) (fun hHeld => ?_); refine qA7 z39.tab7 z39.bits7 (fun HT_ HW_ => ?_)
    generalize w21.drew = w23 at HO_8 HO_102002 HL102_0 HO106 HO109 BK101 HB hHeld ⊢
    refine PX_ 0 22 (tb_ 12 1) HT_ rfl rfl ?_
    refine PX_ 2 24 (tb_ 12 5) HT_ rfl rfl ?_
    refine PX_ 4 26 (tb_ 12 21) HT_ rfl rfl ?_
    refine PX_ 7 29 (tb_ 12 149) HT_ rfl rfl ?_
    refine TX_ 1 23 (tb_ 12 151) HT_ HW_ rfl rfl hHeld ?_
    refine TX_ 3 25 (tb_ 12 159) HT_ HW_ rfl rfl hHeld ?_
    refine TX_ 5 27 (tb_ 12 191) HT_ HW_ rfl rfl hHeld ?_
    refine qO1 (σ := Value × Value) 3 (tb_ 12 511) (fun s_ => [(28, s_.1), (30, s_.2)]) (fun s_ w' => (w'.cell? ⟨gb101, 0, none⟩ = some (.int .i64 x102000_1) ∧ w'.cell? ⟨gb101, 1, none⟩ = some (.int .i64 x102001_1) ∧ w'.cell? ⟨gb101, 2, none⟩ = some (.slice Ao17 x102002_1.length co17)) ∧ (Kd.V (Kd.int .i64) 2 w' w.heap.size (fun k_ => ((P0_2_ k_ ∨ P1_ k_) ∨ w.heap.size ≤ k_) ∧ some k_ ≠ (.slice Ao22 y104.length co22 : Value).ownBlock ∧ some k_ ≠ (v108 : Value).ownBlock ∧ some k_ ≠ (s_.1 : Value).ownBlock ∧ some k_ ≠ (s_.2 : Value).ownBlock ∧ k_ ≠ gb101) (.slice A102_0 (rI_ l1 x10_1).length c102_0) (rI_ l1 x10_1)) ∧ (Kd.N (Kd.slice 2 (Kd.int .i64)) 26 w' w.heap.size (fun k_ => ((P0_2_ k_ ∨ P1_ k_) ∨ w.heap.size ≤ k_) ∧ some k_ ≠ (v108 : Value).ownBlock ∧ some k_ ≠ (s_.1 : Value).ownBlock ∧ some k_ ≠ (s_.2 : Value).ownBlock ∧ k_ ≠ gb101) (.slice Ao22 y104.length co22) y104) ∧ (Kd.N (Kd.slice 2 (Kd.int .i64)) 26 w' w.heap.size (fun k_ => ((P0_2_ k_ ∨ P1_ k_) ∨ w.heap.size ≤ k_) ∧ some k_ ≠ (s_.1 : Value).ownBlock ∧ some k_ ≠ (s_.2 : Value).ownBlock ∧ k_ ≠ gb101) v108 y107) ∧ (Kd.N (Kd.slice 2 (Kd.int .i64)) 26 w' w.heap.size (fun k_ => ((P0_2_ k_ ∨ P1_ k_) ∨ w.heap.size ≤ k_) ∧ some k_ ≠ (.slice Ao22 y104.length co22 : Value).ownBlock ∧ some k_ ≠ (v108 : Value).ownBlock ∧ some k_ ≠ (s_.2 : Value).ownBlock ∧ k_ ≠ gb101) s_.1 t110) ∧ (Kd.N (Kd.slice 2 (Kd.int .i64)) 26 w' w.heap.size (fun k_ => ((P0_2_ k_ ∨ P1_ k_) ∨ w.heap.size ≤ k_) ∧ some k_ ≠ (.slice Ao22 y104.length co22 : Value).ownBlock ∧ some k_ ≠ (v108 : Value).ownBlock ∧ some k_ ≠ (s_.1 : Value).ownBlock ∧ k_ ≠ gb101) s_.2 y113) ∧ (Kd.V (Kd.slice 2 (Kd.int .i64)) 26 w' w.heap.size (fun k_ => ((P0_2_ k_ ∨ P1_ k_) ∨ w.heap.size ≤ k_) ∧ some k_ ≠ (.slice Ao22 y104.length co22 : Value).ownBlock ∧ some k_ ≠ (v108 : Value).ownBlock ∧ some k_ ≠ (s_.1 : Value).ownBlock ∧ some k_ ≠ (s_.2 : Value).ownBlock ∧ k_ ≠ gb101) (.slice Ao17 x102002_1.length co17) x102002_1) ∧ (Kd.V (Kd.slice 2 (Kd.int .i64)) 26 w' w.heap.size (fun k_ => ((P0_2_ k_ ∨ P1_ k_) ∨ w.heap.size ≤ k_) ∧ some k_ ≠ (.slice Ao22 y104.length co22 : Value).ownBlock ∧ some k_ ≠ (v108 : Value).ownBlock ∧ some k_ ≠ (s_.1 : Value).ownBlock ∧ some k_ ≠ (s_.2 : Value).ownBlock ∧ k_ ≠ gb101) (.slice (some ad102) l1.length c1) l1) ∧ (w'.heap[gb101]? = some (.cells #[.int .i64 x102000_1, .int .i64 x102001_1, .slice Ao17 x102002_1.length co17] 60 (0, 0))) ∧ (Below w.heap.size w w')) ?_ ?_
    rotate_left
    ·intro hCont
     refine two_ (i := 6) (j := 8) (Ni := some 28) (Nj := some 30) (tb_ 12 255) (tb_ 12 447) rfl rfl rfl rfl (qLl HT_.out (by kernel_rfl)) (by decide) (by decide) (fun K hK => ?_) (fun K hK => ?_)
     ·skip
      refine GO_ Try.func61 #[.slice Ao17 x102002_1.length co17] (h := ?_)
      with_reducible refine (z61.calls k1 _ _ x102002_1 t110 _ ?side1 ?side2 A13.out).mono ?_
      (case side1 => exact KC_ (Kd.V_reads' HO_102002.out).2.2)
      (case side2 => exact (Kd.V_reads' HO_102002.out).2.1)
      rintro e w24 ⟨v111, rfl, ho0, hb⟩
      refine ⟨_, rfl, ?_⟩
      have HO112 := Zz.mk (Kd.N_lower (Kd.N_mono (ok' := fun k_ => ((P0_2_ k_ ∨ P1_ k_) ∨ w.heap.size ≤ k_) ∧ some k_ ≠ (.slice Ao22 y104.length co22 : Value).ownBlock ∧ some k_ ≠ (v108 : Value).ownBlock ∧ k_ ≠ gb101) (Kd.S_N (Kd.S_bound ho0)) (fun k_ hk_ => ⟨(.inr (Nat.le_trans (bS_ (B1_ HB.out GE101.out)) hk_.2.1)), (Kd.fresh' (Kd.N_lt (KN_ HO106.out)) k_ hk_.2.1), (Kd.fresh' (Kd.N_lt (KN_ HO109.out)) k_ hk_.2.1), (Kd.freshB (g := gb101) (o := .cells #[.int .i64 x102000_1, .int .i64 x102001_1, .slice Ao17 x102002_1.length co17] 60 (0, 0)) (KB_ BK101.out) k_ hk_.2.1)⟩)) (bS_ (B1_ HB.out GE101.out)))
      replace HO_8 := Zz.mk (Kd.V_elder' (by refine VW_ ?_; exact HO_8.out) (by first | exact Kd.N_base ho0 | exact Kd.S_base ho0) hb)
      replace HO_102002 := Zz.mk (Kd.V_elder' (by refine VW_ ?_; exact HO_102002.out) (by first | exact Kd.N_base ho0 | exact Kd.S_base ho0) hb)
      replace HL102_0 := Zz.mk (Kd.V_elder' (by refine VW_ ?_; exact HL102_0.out) (by first | exact Kd.N_base ho0 | exact Kd.S_base ho0) hb)
      replace HO106 := Zz.mk (Kd.N_elder' (KN_ HO106.out) (by first | exact Kd.N_base ho0 | exact Kd.S_base ho0) hb)
      replace HO109 := Zz.mk (Kd.N_elder' (KN_ HO109.out) (by first | exact Kd.N_base ho0 | exact Kd.S_base ho0) hb)
      replace BK101 := Zz.mk (kb_ BK101.out hb)
      replace HB := Zz.mk (bT_ (B1_ HB.out GE101.out) hb)
      (try clear hb);(try clear hk);(try clear ho0)
      refine hK.out _ _ (Z3_ BK101.out) (fun hHeld => ?_)
      clear hK K
      refine NM_ (N := (some 28)) (h := ?_)
      refine one_ (i := 8) (N := some 30) (tb_ 12 511) rfl rfl (qA5 HT_.out (by kernel_rfl)) (by decide) (fun K hK => ?_)
      refine Kd.N_lit_step (Kd.slice 2 (Kd.int .i64)) _ 26 ?hg (N' := 30) ?hd (xs := ([rI_ l1 x10_1] : List (List Int))) (inner := [.slice A102_0 (rI_ l1 x10_1).length c102_0]) (ok := (fun k_ => ((P0_2_ k_ ∨ P1_ k_) ∨ w.heap.size ≤ k_) ∧ some k_ ≠ (.slice Ao22 y104.length co22 : Value).ownBlock ∧ some k_ ≠ (v108 : Value).ownBlock ∧ some k_ ≠ (v111 : Value).ownBlock ∧ k_ ≠ gb101)) (okp := (fun k_ => ((P0_2_ k_ ∨ P1_ k_) ∨ w.heap.size ≤ k_) ∧ some k_ ≠ (.slice Ao22 y104.length co22 : Value).ownBlock ∧ some k_ ≠ (v108 : Value).ownBlock ∧ some k_ ≠ (v111 : Value).ownBlock ∧ k_ ≠ gb101)) ?hr ?hp (fun _ hk => hk) ((show ∀ k_, w24.heap.size ≤ k_ → (fun k_ => ((P0_2_ k_ ∨ P1_ k_) ∨ w.heap.size ≤ k_) ∧ some k_ ≠ (.slice Ao22 y104.length co22 : Value).ownBlock ∧ some k_ ≠ (v108 : Value).ownBlock ∧ some k_ ≠ (v111 : Value).ownBlock ∧ k_ ≠ gb101) k_ from fun k_ hk => ⟨(.inr (Nat.le_trans (bS_ (B1_ HB.out GE101.out)) hk)), Kd.fresh' (Kd.N_lt (KN_ HO106.out)) k_ hk, Kd.fresh' (Kd.N_lt (KN_ HO109.out)) k_ hk, Kd.fresh' (Kd.N_lt (KN_ HO112.out)) k_ hk, Kd.freshB (g := gb101) (o := .cells #[.int .i64 x102000_1, .int .i64 x102001_1, .slice Ao17 x102002_1.length co17] 60 (0, 0)) (KB_ BK101.out) k_ hk⟩) _ (Nat.le_refl _)) (Below.refl _ _) (Nat.le_refl _) (by simp) ?_; (case hd => rfl); (case hg => rfl); (case hr => first | (go_simp; done) | (go_simp; rfl)); (case hp => exact (Reps.one (show Kd.FK (Kd.slice 2 (Kd.int .i64)) _ _ (rI_ l1 x10_1) [.slice A102_0 (rI_ l1 x10_1).length c102_0] from (Kd.FK_slice_mk (Kd.V_reads' (Kd.V_mono (ok' := (fun k_ => ((P0_2_ k_ ∨ P1_ k_) ∨ w.heap.size ≤ k_) ∧ some k_ ≠ (.slice Ao22 y104.length co22 : Value).ownBlock ∧ some k_ ≠ (v108 : Value).ownBlock ∧ some k_ ≠ (v111 : Value).ownBlock ∧ k_ ≠ gb101)) (HL102_0.out) (fun k_ hk => ⟨hk.1.1.1, ⟨hk.1.1.2.1, ⟨hk.1.2, ⟨hk.2, hk.1.1.2.2⟩⟩⟩⟩))).2.1 (Kd.V_F (Kd.V_mono (ok' := (fun k_ => ((P0_2_ k_ ∨ P1_ k_) ∨ w.heap.size ≤ k_) ∧ some k_ ≠ (.slice Ao22 y104.length co22 : Value).ownBlock ∧ some k_ ≠ (v108 : Value).ownBlock ∧ some k_ ≠ (v111 : Value).ownBlock ∧ k_ ≠ gb101)) (HL102_0.out) (fun k_ hk => ⟨hk.1.1.1, ⟨hk.1.1.2.1, ⟨hk.1.2, ⟨hk.2, hk.1.1.2.2⟩⟩⟩⟩))))) (Reps.none _ _)))
      intro v114 w25 ho26 hb hg_ hnew_
      clear hg_ hnew_
      (first | rw [← Ny113.out] at ho26 | (simp only [Int.reduceToNat] at ho26; rw [← Ny113.out] at ho26))
      replace HO_8 := Zz.mk (Kd.V_elder' (by refine VW_ ?_; exact HO_8.out) (by first | exact Kd.N_base ho26 | exact Kd.S_base ho26) hb)
      replace HO_102002 := Zz.mk (Kd.V_elder' (by refine VW_ ?_; exact HO_102002.out) (by first | exact Kd.N_base ho26 | exact Kd.S_base ho26) hb)
      replace HL102_0 := Zz.mk (Kd.V_elder' (by refine VW_ ?_; exact HL102_0.out) (by first | exact Kd.N_base ho26 | exact Kd.S_base ho26) hb)
      replace HO106 := Zz.mk (Kd.N_elder' (KN_ HO106.out) (by first | exact Kd.N_base ho26 | exact Kd.S_base ho26) hb)
      replace HO109 := Zz.mk (Kd.N_elder' (KN_ HO109.out) (by first | exact Kd.N_base ho26 | exact Kd.S_base ho26) hb)
      replace HO112 := Zz.mk (Kd.N_elder' (KN_ HO112.out) (by first | exact Kd.N_base ho26 | exact Kd.S_base ho26) hb)
      have HO115 := Zz.mk (Kd.N_lower ho26 (bS_ (B1_ HB.out GE101.out)))
      replace BK101 := Zz.mk (kb_ BK101.out hb)
      replace HB := Zz.mk (bT_ (B1_ HB.out GE101.out) hb)
      clear hb ho26
      refine hK.out _ _ (Z3_ BK101.out) (fun hHeld => ?_)
      clear hK K
      refine NM_ (N := (some 30)) (h := ?_)
      exact qGn (by simp only [qDa, Act.put, List.setIfInBounds_toArray, List.set_cons_zero, List.set_cons_succ]) (hCont (v111, v114) _ ⟨hHeld, (by refine VW_ ?_; exact Kd.V_mono HL102_0.out (fun _ hk => pj_ hk)), (by refine NW_ ?_; exact Kd.N_mono HO106.out (fun _ hk => pj_ hk)), (by refine NW_ ?_; exact Kd.N_mono HO109.out (fun _ hk => ⟨hk.1.1.1, ⟨hk.1.2, ⟨hk.2, hk.1.1.2⟩⟩⟩)), (by refine NW_ ?_; exact Kd.N_mono HO112.out (fun _ hk => pj_ hk)), (KN_ HO115.out), (by refine VW_ ?_; exact Kd.V_mono HO_102002.out (fun _ hk => pj_ hk)), (by refine VW_ ?_; exact Kd.V_mono HO_8.out (fun _ hk => pj_ hk)), (KB_ BK101.out), (B1_ HB.out GE101.out)⟩)
     skip
     refine Kd.N_lit_step (Kd.slice 2 (Kd.int .i64)) _ 26 ?hg (N' := 30) ?hd (xs := ([rI_ l1 x10_1] : List (List Int))) (inner := [.slice A102_0 (rI_ l1 x10_1).length c102_0]) (ok := (fun k_ => ((P0_2_ k_ ∨ P1_ k_) ∨ w.heap.size ≤ k_) ∧ some k_ ≠ (.slice Ao22 y104.length co22 : Value).ownBlock ∧ some k_ ≠ (v108 : Value).ownBlock ∧ k_ ≠ gb101)) (okp := (fun k_ => ((P0_2_ k_ ∨ P1_ k_) ∨ w.heap.size ≤ k_) ∧ some k_ ≠ (.slice Ao22 y104.length co22 : Value).ownBlock ∧ some k_ ≠ (v108 : Value).ownBlock ∧ k_ ≠ gb101)) ?hr ?hp (fun _ hk => hk) ((show ∀ k_, w23.heap.size ≤ k_ → (fun k_ => ((P0_2_ k_ ∨ P1_ k_) ∨ w.heap.size ≤ k_) ∧ some k_ ≠ (.slice Ao22 y104.length co22 : Value).ownBlock ∧ some k_ ≠ (v108 : Value).ownBlock ∧ k_ ≠ gb101) k_ from fun k_ hk => ⟨(.inr (Nat.le_trans (bS_ (B1_ HB.out GE101.out)) hk)), Kd.fresh' (Kd.N_lt (KN_ HO106.out)) k_ hk, Kd.fresh' (Kd.N_lt (KN_ HO109.out)) k_ hk, Kd.freshB (g := gb101) (o := .cells #[.int .i64 x102000_1, .int .i64 x102001_1, .slice Ao17 x102002_1.length co17] 60 (0, 0)) (KB_ BK101.out) k_ hk⟩) _ (Nat.le_refl _)) (Below.refl _ _) (Nat.le_refl _) (by simp) ?_; (case hd => rfl); (case hg => rfl); (case hr => first | (go_simp; done) | (go_simp; rfl)); (case hp => exact (Reps.one (show Kd.FK (Kd.slice 2 (Kd.int .i64)) _ _ (rI_ l1 x10_1) [.slice A102_0 (rI_ l1 x10_1).length c102_0] from (Kd.FK_slice_mk (Kd.V_reads' (Kd.V_mono (ok' := (fun k_ => ((P0_2_ k_ ∨ P1_ k_) ∨ w.heap.size ≤ k_) ∧ some k_ ≠ (.slice Ao22 y104.length co22 : Value).ownBlock ∧ some k_ ≠ (v108 : Value).ownBlock ∧ k_ ≠ gb101)) (HL102_0.out) (fun k_ hk => ⟨hk.1.1, ⟨hk.1.2.1, ⟨hk.2, hk.1.2.2⟩⟩⟩))).2.1 (Kd.V_F (Kd.V_mono (ok' := (fun k_ => ((P0_2_ k_ ∨ P1_ k_) ∨ w.heap.size ≤ k_) ∧ some k_ ≠ (.slice Ao22 y104.length co22 : Value).ownBlock ∧ some k_ ≠ (v108 : Value).ownBlock ∧ k_ ≠ gb101)) (HL102_0.out) (fun k_ hk => ⟨hk.1.1, ⟨hk.1.2.1, ⟨hk.2, hk.1.2.2⟩⟩⟩))))) (Reps.none _ _)))
     intro v114 w24 ho25 hb hg_ hnew_
     clear hg_ hnew_
     (first | rw [← Ny113.out] at ho25 | (simp only [Int.reduceToNat] at ho25; rw [← Ny113.out] at ho25))
     replace HO_8 := Zz.mk (Kd.V_elder' (by refine VW_ ?_; exact HO_8.out) (by first | exact Kd.N_base ho25 | exact Kd.S_base ho25) hb)
     replace HO_102002 := Zz.mk (Kd.V_elder' (by refine VW_ ?_; exact HO_102002.out) (by first | exact Kd.N_base ho25 | exact Kd.S_base ho25) hb)
     replace HL102_0 := Zz.mk (Kd.V_elder' (by refine VW_ ?_; exact HL102_0.out) (by first | exact Kd.N_base ho25 | exact Kd.S_base ho25) hb)
     replace HO106 := Zz.mk (Kd.N_elder' (KN_ HO106.out) (by first | exact Kd.N_base ho25 | exact Kd.S_base ho25) hb)
     replace HO109 := Zz.mk (Kd.N_elder' (KN_ HO109.out) (by first | exact Kd.N_base ho25 | exact Kd.S_base ho25) hb)
     have HO115 := Zz.mk (Kd.N_lower ho25 (bS_ (B1_ HB.out GE101.out)))
     replace BK101 := Zz.mk (kb_ BK101.out hb)
     replace HB := Zz.mk (bT_ (B1_ HB.out GE101.out) hb)
     clear hb ho25
     refine hK.out _ _ (Z3_ BK101.out) (fun hHeld => ?_)
     clear hK K
     refine NM_ (N := (some 30)) (h := ?_)
     refine one_ (i := 6) (N := some 28) (tb_ 12 511) rfl rfl (qA5 HT_.out (by kernel_rfl)) (by decide) (fun K hK => ?_)
     refine GO_ Try.func61 #[.slice Ao17 x102002_1.length co17] (h := ?_)
     with_reducible refine (z61.calls k1 _ _ x102002_1 t110 _ ?side1 ?side2 A13.out).mono ?_
     (case side1 => exact KC_ (Kd.V_reads' HO_102002.out).2.2)
     (case side2 => exact (Kd.V_reads' HO_102002.out).2.1)
     rintro e w26 ⟨v111, rfl, ho0, hb⟩
     refine ⟨_, rfl, ?_⟩
     have HO112 := Zz.mk (Kd.N_lower (Kd.N_mono (ok' := fun k_ => ((P0_2_ k_ ∨ P1_ k_) ∨ w.heap.size ≤ k_) ∧ some k_ ≠ (.slice Ao22 y104.length co22 : Value).ownBlock ∧ some k_ ≠ (v108 : Value).ownBlock ∧ some k_ ≠ (v114 : Value).ownBlock ∧ k_ ≠ gb101) (Kd.S_N (Kd.S_bound ho0)) (fun k_ hk_ => ⟨(.inr (Nat.le_trans (bS_ (B1_ HB.out GE101.out)) hk_.2.1)), (Kd.fresh' (Kd.N_lt (KN_ HO106.out)) k_ hk_.2.1), (Kd.fresh' (Kd.N_lt (KN_ HO109.out)) k_ hk_.2.1), (Kd.fresh' (Kd.N_lt (KN_ HO115.out)) k_ hk_.2.1), (Kd.freshB (g := gb101) (o := .cells #[.int .i64 x102000_1, .int .i64 x102001_1, .slice Ao17 x102002_1.length co17] 60 (0, 0)) (KB_ BK101.out) k_ hk_.2.1)⟩)) (bS_ (B1_ HB.out GE101.out)))
     replace HO_8 := Zz.mk (Kd.V_elder' (by refine VW_ ?_; exact HO_8.out) (by first | exact Kd.N_base ho0 | exact Kd.S_base ho0) hb)
     replace HO_102002 := Zz.mk (Kd.V_elder' (by refine VW_ ?_; exact HO_102002.out) (by first | exact Kd.N_base ho0 | exact Kd.S_base ho0) hb)
     replace HL102_0 := Zz.mk (Kd.V_elder' (by refine VW_ ?_; exact HL102_0.out) (by first | exact Kd.N_base ho0 | exact Kd.S_base ho0) hb)
     replace HO106 := Zz.mk (Kd.N_elder' (KN_ HO106.out) (by first | exact Kd.N_base ho0 | exact Kd.S_base ho0) hb)
     replace HO109 := Zz.mk (Kd.N_elder' (KN_ HO109.out) (by first | exact Kd.N_base ho0 | exact Kd.S_base ho0) hb)
     replace HO115 := Zz.mk (Kd.N_elder' (KN_ HO115.out) (by first | exact Kd.N_base ho0 | exact Kd.S_base ho0) hb)
     replace BK101 := Zz.mk (kb_ BK101.out hb)
     replace HB := Zz.mk (bT_ (B1_ HB.out GE101.out) hb)
     (try clear hb);(try clear hk);(try clear ho0)
     refine hK.out _ _ (Z3_ BK101.out) (fun hHeld => ?_)
     clear hK K
     refine NM_ (N := (some 28)) (h := ?_)
     exact qGn (by simp only [qDa, Act.put, List.setIfInBounds_toArray, List.set_cons_zero, List.set_cons_succ]) (hCont (v111, v114) _ ⟨hHeld, (by refine VW_ ?_; exact Kd.V_mono HL102_0.out (fun _ hk => pj_ hk)), (by refine NW_ ?_; exact Kd.N_mono HO106.out (fun _ hk => pj_ hk)), (by refine NW_ ?_; exact Kd.N_mono HO109.out (fun _ hk => ⟨hk.1.1.1, ⟨hk.2, ⟨hk.1.2, hk.1.1.2⟩⟩⟩)), (KN_ HO112.out), (by refine NW_ ?_; exact Kd.N_mono HO115.out (fun _ hk => pj_ hk)), (by refine VW_ ?_; exact Kd.V_mono HO_102002.out (fun _ hk => pj_ hk)), (by refine VW_ ?_; exact Kd.V_mono HO_8.out (fun _ hk => pj_ hk)), (KB_ BK101.out), (B1_ HB.out GE101.out)⟩)
    rintro ⟨v111, v114⟩ w27 ⟨hS_, h0_, h1_, h2_, h3_, h4_, h5_, h6_, h7_, h8_⟩
    have HO112 : Zz (Kd.N (Kd.slice 2 (Kd.int .i64)) 26 w27 w.heap.size (fun k_ => ((P0_2_ k_ ∨ P1_ k_) ∨ w.heap.size ≤ k_) ∧ some k_ ≠ (.slice Ao22 y104.length co22 : Value).ownBlock ∧ some k_ ≠ (v108 : Value).ownBlock ∧ some k_ ≠ (v114 : Value).ownBlock ∧ k_ ≠ gb101) v111 t110) := ⟨h3_⟩
    have HO115 : Zz (Kd.N (Kd.slice 2 (Kd.int .i64)) 26 w27 w.heap.size (fun k_ => ((P0_2_ k_ ∨ P1_ k_) ∨ w.heap.size ≤ k_) ∧ some k_ ≠ (.slice Ao22 y104.length co22 : Value).ownBlock ∧ some k_ ≠ (v108 : Value).ownBlock ∧ some k_ ≠ (v111 : Value).ownBlock ∧ k_ ≠ gb101) v114 y113) := ⟨h4_⟩
    replace HL102_0 : Zz (Kd.V (Kd.int .i64) 2 w27 w.heap.size (fun k_ => ((P0_2_ k_ ∨ P1_ k_) ∨ w.heap.size ≤ k_) ∧ some k_ ≠ (.slice Ao22 y104.length co22 : Value).ownBlock ∧ some k_ ≠ (v108 : Value).ownBlock ∧ some k_ ≠ (v111 : Value).ownBlock ∧ some k_ ≠ (v114 : Value).ownBlock ∧ k_ ≠ gb101) (.slice A102_0 (rI_ l1 x10_1).length c102_0) (rI_ l1 x10_1)) := ⟨h0_⟩
    replace HO106 : Zz (Kd.N (Kd.slice 2 (Kd.int .i64)) 26 w27 w.heap.size (fun k_ => ((P0_2_ k_ ∨ P1_ k_) ∨ w.heap.size ≤ k_) ∧ some k_ ≠ (v108 : Value).ownBlock ∧ some k_ ≠ (v111 : Value).ownBlock ∧ some k_ ≠ (v114 : Value).ownBlock ∧ k_ ≠ gb101) (.slice Ao22 y104.length co22) y104) := ⟨h1_⟩
    replace HO109 : Zz (Kd.N (Kd.slice 2 (Kd.int .i64)) 26 w27 w.heap.size (fun k_ => ((P0_2_ k_ ∨ P1_ k_) ∨ w.heap.size ≤ k_) ∧ some k_ ≠ (v111 : Value).ownBlock ∧ some k_ ≠ (v114 : Value).ownBlock ∧ k_ ≠ gb101) v108 y107) := ⟨h2_⟩
    replace HO_102002 : Zz (Kd.V (Kd.slice 2 (Kd.int .i64)) 26 w27 w.heap.size (fun k_ => ((P0_2_ k_ ∨ P1_ k_) ∨ w.heap.size ≤ k_) ∧ some k_ ≠ (.slice Ao22 y104.length co22 : Value).ownBlock ∧ some k_ ≠ (v108 : Value).ownBlock ∧ some k_ ≠ (v111 : Value).ownBlock ∧ some k_ ≠ (v114 : Value).ownBlock ∧ k_ ≠ gb101) (.slice Ao17 x102002_1.length co17) x102002_1) := ⟨h5_⟩
    replace HO_8 : Zz (Kd.V (Kd.slice 2 (Kd.int .i64)) 26 w27 w.heap.size (fun k_ => ((P0_2_ k_ ∨ P1_ k_) ∨ w.heap.size ≤ k_) ∧ some k_ ≠ (.slice Ao22 y104.length co22 : Value).ownBlock ∧ some k_ ≠ (v108 : Value).ownBlock ∧ some k_ ≠ (v111 : Value).ownBlock ∧ some k_ ≠ (v114 : Value).ownBlock ∧ k_ ≠ gb101) (.slice (some ad102) l1.length c1) l1) := ⟨h6_⟩
    replace BK101 : Zz (w27.heap[gb101]? = some (.cells #[.int .i64 x102000_1, .int .i64 x102001_1, .slice Ao17 x102002_1.length co17] 60 (0, 0))) := ⟨h7_⟩
    replace HB : Zz (Below w.heap.size w w27) := ⟨h8_⟩
    (try clear h0_)
    (try clear h1_)
    (try clear h2_)
    (try clear h3_)
    (try clear h4_)
    (try clear h5_)
    (try clear h6_)
    (try clear h7_)
    (try clear h8_)
    have hHeld : w27.cell? ⟨gb101, 0, none⟩ = some (.int .i64 x102000_1) ∧ w27.cell? ⟨gb101, 1, none⟩ = some (.int .i64 x102001_1) ∧ w27.cell? ⟨gb101, 2, none⟩ = some (.slice Ao17 x102002_1.length co17) := hS_
    obtain ⟨Ao29, co29, eo29⟩ := Kd.N_slice HO115.out
    (first | subst eo29 | obtain ⟨rfl, rfl⟩ := sl_ eo29)
    refine qGn (a' := ?_) ?_ ?_
    rotate_left
    ·simp only [qDa, Act.put, List.setIfInBounds_toArray, List.set_cons_zero, List.set_cons_succ]
     rfl
    refine one_ (i := 9) (N := some 31) (tb_ 12 1023) rfl rfl (qA5 HT_.out (by kernel_rfl)) (by decide) (fun K hK => ?_)
    refine Kd.N_append_rows_step (Kd.slice 2 (Kd.int .i64)) (w0 := w) w.heap.size (by rfl) (.tmp 28) (.tmp 30) 22 26 (.slice none 0 0) 24 rfl Try.underlying22 qDm rfl (by decide) (by omega) v111 t110 y113 _ _ _ (fun k_ => ((P0_2_ k_ ∨ P1_ k_) ∨ w.heap.size ≤ k_) ∧ some k_ ≠ (.slice Ao22 y104.length co22 : Value).ownBlock ∧ some k_ ≠ (v108 : Value).ownBlock ∧ k_ ≠ gb101) (fun k_ => ((fun k_ => ((P0_2_ k_ ∨ P1_ k_) ∨ w.heap.size ≤ k_) ∧ some k_ ≠ (.slice Ao22 y104.length co22 : Value).ownBlock ∧ some k_ ≠ (v108 : Value).ownBlock ∧ k_ ≠ gb101)) k_ ∧ some k_ ≠ (v111 : Value).ownBlock) rfl rfl ?aO ?aR (fun _ hk => hk) ?aF ?aB ?aS ?aL ?_
    (case aR => exact (by skip; exact Kd.N_F (Kd.N_mono (ok' := (fun k_ => ((fun k_ => ((P0_2_ k_ ∨ P1_ k_) ∨ w.heap.size ≤ k_) ∧ some k_ ≠ (.slice Ao22 y104.length co22 : Value).ownBlock ∧ some k_ ≠ (v108 : Value).ownBlock ∧ k_ ≠ gb101)) k_ ∧ some k_ ≠ (v111 : Value).ownBlock)) (HO115.out) (fun k_ hk => ⟨⟨hk.1, ⟨hk.2.1, ⟨hk.2.2.1, hk.2.2.2.2⟩⟩⟩, hk.2.2.2.1⟩))))
    (case aB => exact (B1_ HB.out GE101.out))
    (case aF => exact (fun k_ hk => ⟨(.inr (Nat.le_trans (bS_ (B1_ HB.out GE101.out)) hk)), Kd.fresh' (Kd.N_lt (KN_ HO106.out)) k_ hk, Kd.fresh' (Kd.N_lt (KN_ HO109.out)) k_ hk, Kd.freshB (g := gb101) (o := .cells #[.int .i64 x102000_1, .int .i64 x102001_1, .slice Ao17 x102002_1.length co17] 60 (0, 0)) (KB_ BK101.out) k_ hk⟩))
    (case aO => exact (by refine NW_ ?_; exact Kd.N_mono HO112.out (fun _ hk => ⟨hk.1, ⟨hk.2.1, ⟨hk.2.2.1, hk.2.2.2.2⟩⟩⟩)))
    (case aS => exact (bS_ (B1_ HB.out GE101.out)))
    (case aL => have := LMc14.out; omega)
    intro v117 w28 ho hb hg hat
    rw [← Ny116.out] at ho
    replace HO_8 := Zz.mk (Kd.V_afterv (ok := (fun k_ => ((P0_2_ k_ ∨ P1_ k_) ∨ w.heap.size ≤ k_) ∧ some k_ ≠ (.slice Ao22 y104.length co22 : Value).ownBlock ∧ some k_ ≠ (v108 : Value).ownBlock ∧ some k_ ≠ (.slice Ao29 y113.length co29 : Value).ownBlock ∧ k_ ≠ gb101)) (by refine VW_ ?_; exact Kd.V_mono HO_8.out (fun _ hk => pj_ hk)) hg hat)
    replace HO_102002 := Zz.mk (Kd.V_afterv (ok := (fun k_ => ((P0_2_ k_ ∨ P1_ k_) ∨ w.heap.size ≤ k_) ∧ some k_ ≠ (.slice Ao22 y104.length co22 : Value).ownBlock ∧ some k_ ≠ (v108 : Value).ownBlock ∧ some k_ ≠ (.slice Ao29 y113.length co29 : Value).ownBlock ∧ k_ ≠ gb101)) (by refine VW_ ?_; exact Kd.V_mono HO_102002.out (fun _ hk => pj_ hk)) hg hat)
    replace BK101 := Zz.mk (qAy (g := gb101) (o := .cells #[.int .i64 x102000_1, .int .i64 x102001_1, .slice Ao17 x102002_1.length co17] 60 (0, 0)) (KB_ BK101.out) hg (Kd.N_ne HO112.out BK101.out (by decide)))
    replace HL102_0 := Zz.mk (Kd.V_afterv (ok := (fun k_ => ((P0_2_ k_ ∨ P1_ k_) ∨ w.heap.size ≤ k_) ∧ some k_ ≠ (.slice Ao22 y104.length co22 : Value).ownBlock ∧ some k_ ≠ (v108 : Value).ownBlock ∧ some k_ ≠ (.slice Ao29 y113.length co29 : Value).ownBlock ∧ k_ ≠ gb101)) (by refine VW_ ?_; exact Kd.V_mono HL102_0.out (fun _ hk => pj_ hk)) hg hat)
    replace HO106 := Zz.mk (Kd.N_afterv (ok := (fun k_ => ((P0_2_ k_ ∨ P1_ k_) ∨ w.heap.size ≤ k_) ∧ some k_ ≠ (v108 : Value).ownBlock ∧ some k_ ≠ (.slice Ao29 y113.length co29 : Value).ownBlock ∧ k_ ≠ gb101)) (by refine NW_ ?_; exact Kd.N_mono HO106.out (fun _ hk => pj_ hk)) hg hat)
    replace HO109 := Zz.mk (Kd.N_afterv (ok := (fun k_ => ((P0_2_ k_ ∨ P1_ k_) ∨ w.heap.size ≤ k_) ∧ some k_ ≠ (.slice Ao29 y113.length co29 : Value).ownBlock ∧ k_ ≠ gb101)) (by refine NW_ ?_; exact Kd.N_mono HO109.out (fun _ hk => ⟨⟨hk.1, ⟨hk.2.2.1, hk.2.2.2⟩⟩, hk.2.1⟩)) hg hat)
    replace HO115 := Zz.mk (Kd.N_afterv (ok := (fun k_ => ((P0_2_ k_ ∨ P1_ k_) ∨ w.heap.size ≤ k_) ∧ some k_ ≠ (.slice Ao22 y104.length co22 : Value).ownBlock ∧ some k_ ≠ (v108 : Value).ownBlock ∧ k_ ≠ gb101)) (by refine NW_ ?_; exact Kd.N_mono HO115.out (fun _ hk => pj_ hk)) hg hat)
    replace HB := Zz.mk (hb)
    have HO118 := Zz.mk (ho)
    clear HO112
    clear ho hb hg hat
    obtain ⟨Ao30, co30, eo30⟩ := Kd.N_slice HO118.out
    (first | subst eo30 | obtain ⟨rfl, rfl⟩ := sl_ eo30)
    refine hK.out _ _ (Z3_ BK101.out) (fun hHeld => ?_)
    clear hK K
    refine NM_ (N := (some 31)) (h := ?_)
    refine one_ (i := 10) (N := some 32) (tb_ 12 2047) rfl rfl (qA5 HT_.out (by kernel_rfl)) (by decide) (fun K hK => ?_)
    refine GO_ Try.func60 #[.int .i64 x102000_1, .int .i64 x102001_1, .slice Ao30 y116.length co30] (h := ?_)
    with_reducible refine (z60.calls k1 x102000_1 x102001_1 _ _ y116 t119 t120 t121 _ ?side1 ?side2 A15.out).mono ?_
    (case side1 => exact KC_ (Kd.N_reads' HO118.out).2.2)
    (case side2 => exact (Kd.N_reads' HO118.out).2.1)
    rintro e w31 ⟨v122, rfl, ho0, hb⟩
    refine ⟨_, rfl, ?_⟩
    have HO123 := Zz.mk (Kd.N_lower (Kd.N_mono (ok' := fun k_ => ((P0_2_ k_ ∨ P1_ k_) ∨ w.heap.size ≤ k_) ∧ some k_ ≠ (.slice Ao22 y104.length co22 : Value).ownBlock ∧ some k_ ≠ (v108 : Value).ownBlock ∧ some k_ ≠ (.slice Ao29 y113.length co29 : Value).ownBlock ∧ some k_ ≠ (.slice Ao30 y116.length co30 : Value).ownBlock ∧ k_ ≠ gb101) (Kd.S_N (Kd.S_bound ho0)) (fun k_ hk_ => ⟨(.inr (Nat.le_trans (bS_ (B1_ HB.out GE101.out)) hk_.2.1)), (Kd.fresh' (Kd.N_lt (KN_ HO106.out)) k_ hk_.2.1), (Kd.fresh' (Kd.N_lt (KN_ HO109.out)) k_ hk_.2.1), (Kd.fresh' (Kd.N_lt (KN_ HO115.out)) k_ hk_.2.1), (Kd.fresh' (Kd.N_lt (KN_ HO118.out)) k_ hk_.2.1), (Kd.freshB (g := gb101) (o := .cells #[.int .i64 x102000_1, .int .i64 x102001_1, .slice Ao17 x102002_1.length co17] 60 (0, 0)) (KB_ BK101.out) k_ hk_.2.1)⟩)) (bS_ (B1_ HB.out GE101.out)))
    replace HO_8 := Zz.mk (Kd.V_elder' (by refine VW_ ?_; exact HO_8.out) (by first | exact Kd.N_base ho0 | exact Kd.S_base ho0) hb)
    replace HO_102002 := Zz.mk (Kd.V_elder' (by refine VW_ ?_; exact HO_102002.out) (by first | exact Kd.N_base ho0 | exact Kd.S_base ho0) hb)
    replace HL102_0 := Zz.mk (Kd.V_elder' (by refine VW_ ?_; exact HL102_0.out) (by first | exact Kd.N_base ho0 | exact Kd.S_base ho0) hb)
    replace HO106 := Zz.mk (Kd.N_elder' (KN_ HO106.out) (by first | exact Kd.N_base ho0 | exact Kd.S_base ho0) hb)
    replace HO109 := Zz.mk (Kd.N_elder' (KN_ HO109.out) (by first | exact Kd.N_base ho0 | exact Kd.S_base ho0) hb)
    replace HO115 := Zz.mk (Kd.N_elder' (KN_ HO115.out) (by first | exact Kd.N_base ho0 | exact Kd.S_base ho0) hb)
    replace HO118 := Zz.mk (Kd.N_elder' (KN_ HO118.out) (by first | exact Kd.N_base ho0 | exact Kd.S_base ho0) hb)
    replace BK101 := Zz.mk (kb_ BK101.out hb)
    replace HB := Zz.mk (bT_ (B1_ HB.out GE101.out) hb)
    (try clear hb);(try clear hk);(try clear ho0)
    obtain ⟨Ao34, co34, eo34⟩ := Kd.N_slice HO123.out
    (first | subst eo34 | obtain ⟨rfl, rfl⟩ := sl_ eo34)
    refine hK.out _ _ (Z3_ BK101.out) (fun hHeld => ?_)
    clear hK K
    refine NM_ (N := (some 32)) (h := ?_)
    refine qEs (i := 11) (N := none) (tb_ 12 4095) rfl rfl (qA5 HT_.out (by kernel_rfl)) (by decide) (fun K hK => ?_)
    have hs32 : w31.cell? ⟨gb101, 0, none⟩ = some (.int .i64 x102000_1) := (bC_ BK101.out 0).trans rfl
    have hfs32 := bF_ BK101.out 0
    have hs33 : w31.cell? ⟨gb101, 1, none⟩ = some (.int .i64 x102001_1) := (bC_ BK101.out 1).trans rfl
    have hfs33 := bF_ BK101.out 1
    have hs35 : w31.cell? ⟨gb101, 2, none⟩ = some (.slice Ao17 x102002_1.length co17) := (bC_ BK101.out 2).trans rfl
    have hfs35 := bF_ BK101.out 2
    refine qD2 (w1 := ?_) (by rfl) rfl ?_ ?_
    rotate_left
    ·go_simp
     rfl
    refine hK.out _ _ ?_
    clear hK K
    refine qCp (qBq HT_.out (by kernel_rfl)) ?_
    try go_wp2
    go_roundg k1
    case measure => exact Q1_ HK1
    case rel => exact ⟨(y107), (wrap64 (x10_1 + 1)), (t119), (t120), (t121), (.slice Ao34 t121.length co34), E_, H', ⟨Q1_ HK1⟩, ⟨by refine NW_ ?_; exact Kd.N_mono (Kd.N_far (p := ⟨gb101, 2, none⟩) (Kd.N_far (p := ⟨gb101, 1, none⟩) (Kd.N_far (p := ⟨gb101, 0, none⟩) (Kd.N_mono HO109.out (fun k_ hk => (⟨hk, hk.1.1.2.2⟩ : _ ∧ k_ ≠ gb101))) (fun _ hk => hk.2) (.int .i64 t119)) (fun _ hk => hk.2) (.int .i64 t120)) (fun _ hk => hk.2) (.slice Ao34 t121.length co34)) (fun _ hk => ⟨hk.1.1.1.1, hk.1.1.1.2.2⟩)⟩, ⟨by refine VW_ ?_; exact Kd.V_mono (Kd.V_far (p := ⟨gb101, 2, none⟩) (Kd.V_far (p := ⟨gb101, 1, none⟩) (Kd.V_far (p := ⟨gb101, 0, none⟩) (Kd.V_mono HO_8.out (fun k_ hk => (⟨hk, hk.1.1.2.2.2.2⟩ : _ ∧ k_ ≠ gb101))) (fun _ hk => hk.2) (.int .i64 t119)) (fun _ hk => hk.2) (.int .i64 t120)) (fun _ hk => hk.2) (.slice Ao34 t121.length co34)) (fun _ hk => ⟨hk.1.1.1.1, ⟨hk.1.1.1.2.2.1, hk.1.1.1.2.2.2.2⟩⟩)⟩, ⟨Kd.N_V (by refine NW_ ?_; exact Kd.N_mono (Kd.N_far (p := ⟨gb101, 2, none⟩) (Kd.N_far (p := ⟨gb101, 1, none⟩) (Kd.N_far (p := ⟨gb101, 0, none⟩) (Kd.N_mono HO123.out (fun k_ hk => (⟨hk, hk.2.2.2.2.2⟩ : _ ∧ k_ ≠ gb101))) (fun _ hk => hk.2) (.int .i64 t119)) (fun _ hk => hk.2) (.int .i64 t120)) (fun _ hk => hk.2) (.slice Ao34 t121.length co34)) (fun _ hk => ⟨hk.1.1, ⟨hk.1.2.2.1, hk.1.2.2.2.2.2⟩⟩))⟩, ⟨by refine BW_ ?_; refine bP_ (cs := #[.int .i64 t119, .int .i64 t120, .slice Ao17 x102002_1.length co17]) ?_ 2 _ rfl; refine BW_ ?_; refine bP_ (cs := #[.int .i64 t119, .int .i64 x102001_1, .slice Ao17 x102002_1.length co17]) ?_ 1 _ rfl; refine BW_ ?_; refine bP_ (cs := #[.int .i64 x102000_1, .int .i64 x102001_1, .slice Ao17 x102002_1.length co17]) ?_ 0 _ rfl; refine BW_ ?_; exact BK101.out⟩, ⟨B1_ HB.out GE101.out⟩⟩
   rw [if_neg c4] at H
   have c4b0 : decide (x10_1 < (l1.length : Int)) = false := decide_eq_false c4
   clear c4
   obtain rfl := OI_ H
   go_wp2
   go_ret
   exact ⟨_, F_, by refine NW_ ?_; exact Kd.N_mono HO_5.out (fun _ hk => hk.1), B1_ HB.out GE101.out⟩
end Go.Proofs.Ytpgjfppbbbnclaa.B
