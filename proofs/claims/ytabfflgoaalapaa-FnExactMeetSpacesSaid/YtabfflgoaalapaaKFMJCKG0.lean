/- Printed proofs of functions of the program and of the reference, by a program of this work over the kit's printer. -/
import Derived.Test.YtabfflgoaalapaaKENHNJJ0
import Derived.Test.YtabfflgoaalapaaKGMFEED0
import Derived.Test.YtabfflgoaalapaaKMJGMHH0
import Derived.Test.YtabfflgoaalapaaKW0
set_option maxHeartbeats 8000000
set_option maxRecDepth 100000
namespace Go.Proofs.Ytabfflgoaalapaa.B
open Go.RowKit Go.Proofs.YtabfflgoaalapaaW.PrintWords Go.Proofs.YtabfflgoaalapaaW.PrintLast Go.Proofs.YtabfflgoaalapaaW.PrintMore
attribute [local go_sem] qAo qAm qAq qAp qAk qAj qAn qAl
set_option linter.unusedVariables false
set_option linter.unusedSimpArgs false
def z28.l0 : Nat → List (List Int) → Int → Int → Option (Int)
 | 0, _, _, _ => none
 | k + 1, x0, x1, x5 => if x5 < (x0.length : Int) then (if 0 ≤ x5 then ((z20.f k (rI_ x0 x5) x1).bind fun t102 => (if t102 < 0 then (some (-1)) else (z28.l0 k x0 t102 (wrap64 (x5 + 1))))) else (none)) else (some x1)
def z28.f (k : Nat) (l0 : List (List Int)) (a1 : Int) : Option (Int) := z28.l0 k l0 a1 0
theorem z28.calls (k : Nat) (A0 : Option Addr) (c0 : Nat) (l0 : List (List Int)) (a1 : Int) (r : Int) (w : World) (hr0 : Kd.C (Kd.slice 2 (Kd.int .i64)) w A0 l0.length l0) (hc0 : l0.length ≤ c0) (h : z28.f k l0 a1 = some r) :
  Calls Try.prog 28 #[.slice A0 l0.length c0, .int .i64 a1] w fun e w' => e = .returned (.int .i64 r) ∧ Dz w w' := by
 have HR0 := Zz.mk hr0
 have HC0 := Zz.mk hc0
 clear hr0 hc0
 have H : (z28.l0 k l0 a1 0) = some r := h
 clear h
 have H' := Zz.mk H
 clear H
 go_enter Try.func28, Try.ntmps28
 go_wp2
 go_loopg [1, 5] k (fun kq v1 v5 w' => ∃ (x1_1 : Int) (x5_1 : Int), v1 = .int .i64 x1_1 ∧ v5 = .int .i64 x5_1 ∧ Zz (z28.l0 kq l0 x1_1 x5_1 = some r) ∧ Zz (kq ≤ k) ∧ Dz w w')
 case atStart => exact ⟨(a1), (0), E_, E_, H', ⟨Nat.le_refl _⟩, by repeat (first | exact Dz.refl _ | apply Dz.step)⟩
 case round =>
  clear H'
  obtain ⟨x1_1, x5_1, rfl, rfl, HA, HK1, ⟨m1, rfl⟩⟩ := hrel
  cases gk with
  | zero => exact absurd HA.out (by simp [z28.l0])
  | succ k1 =>
   have H := HA.out
   clear HA
   simp only [z28.l0] at H
   by_cases c3 : x5_1 < (l0.length : Int)
   ·rw [if_pos c3] at H
    have c3b0 : decide (x5_1 < (l0.length : Int)) = true := decide_eq_true c3
    clear c3
    have c4b0 := O3_ H
    replace H := O2_ H
    replace H := OZ_ H
    obtain ⟨t102, A5, H⟩ := H
    by_cases c6 : t102 < 0
    ·rw [if_pos c6] at H
     have c6b0 : decide (t102 < 0) = true := decide_eq_true c6
     clear c6
     obtain rfl := OI_ H
     have p101 : 0 ≤ (x5_1 : Int) := D_
     have q101 : x5_1 < (l0.length : Int) := D_
     obtain ⟨ad101, A101_0, c101_0, e101, hx101_0, hl101_0, hi101_0⟩ := qAx HR0.out x5_1 p101 q101
     cases e101
     have HR101_0 := Zz.mk hi101_0
     have HC101_0 := Zz.mk hl101_0
     clear hi101_0 hl101_0
     replace p101 := eq_true p101
     replace q101 := eq_true q101
     go_wp2_with (first | ((with_reducible refine gC_ (f := 20) rfl ?_); refine GL_ (some 17) rfl rfl Try.func20 #[.slice A101_0 (rI_ l0 x5_1).length c101_0, .int .i64 x1_1] rfl (h := ?_); (with_reducible refine (z20.calls k1 _ _ (rI_ l0 x5_1) x1_1 t102 _ ?side1 ?side2 A5.out).mono ?_); (case side1 => exact KC_ HR101_0.out); (case side2 => exact HC101_0.out); rintro e w' ⟨rfl, ⟨nd, rfl⟩⟩; refine ⟨_, rfl, ?_⟩))
     go_ret
     exact eD_
    rw [if_neg c6] at H
    have c6b0 : decide (t102 < 0) = false := decide_eq_false c6
    clear c6
    have H' := Zz.mk H
    clear H
    have p101 : 0 ≤ (x5_1 : Int) := D_
    have q101 : x5_1 < (l0.length : Int) := D_
    obtain ⟨ad101, A101_0, c101_0, e101, hx101_0, hl101_0, hi101_0⟩ := qAx HR0.out x5_1 p101 q101
    cases e101
    have HR101_0 := Zz.mk hi101_0
    have HC101_0 := Zz.mk hl101_0
    clear hi101_0 hl101_0
    replace p101 := eq_true p101
    replace q101 := eq_true q101
    go_wp2_with (first | ((with_reducible refine gC_ (f := 20) rfl ?_); refine GL_ (some 17) rfl rfl Try.func20 #[.slice A101_0 (rI_ l0 x5_1).length c101_0, .int .i64 x1_1] rfl (h := ?_); (with_reducible refine (z20.calls k1 _ _ (rI_ l0 x5_1) x1_1 t102 _ ?side1 ?side2 A5.out).mono ?_); (case side1 => exact KC_ HR101_0.out); (case side2 => exact HC101_0.out); rintro e w' ⟨rfl, ⟨nd, rfl⟩⟩; refine ⟨_, rfl, ?_⟩))
    go_roundg k1
    case measure => exact Q1_ HK1
    case rel => exact ⟨(t102), (wrap64 (x5_1 + 1)), E_, E_, H', ⟨Q1_ HK1⟩, by repeat (first | exact Dz.refl _ | apply Dz.step)⟩
   rw [if_neg c3] at H
   have c3b0 : decide (x5_1 < (l0.length : Int)) = false := decide_eq_false c3
   clear c3
   obtain rfl := OI_ H
   go_wp2
   go_ret
   exact eD_
def z23.f (k : Nat) (a0_0 : Int) (a0_1 : Int) (l0_2 : List (List Int)) (a1 : Int) : Option (Int) := (z28.f k l0_2 a1).bind fun t102 => (if t102 < 0 then (some (-1)) else (some t102))
theorem z23.calls (k : Nat) (a0_0 : Int) (a0_1 : Int) (A0_2 : Option Addr) (c0_2 : Nat) (l0_2 : List (List Int)) (a1 : Int) (r : Int) (w : World) (hr0_2 : Kd.C (Kd.slice 2 (Kd.int .i64)) w A0_2 l0_2.length l0_2) (hc0_2 : l0_2.length ≤ c0_2) (h : z23.f k a0_0 a0_1 l0_2 a1 = some r) :
  Calls Try.prog 23 #[.agg #[.int .i64 a0_0, .int .i64 a0_1, .slice A0_2 l0_2.length c0_2], .int .i64 a1] w fun e w' => e = .returned (.int .i64 r) ∧ Below w.heap.size w w' := by
 have hu29 := Try.underlying29
 have HR0_2 := Zz.mk hr0_2
 have HC0_2 := Zz.mk hc0_2
 clear hr0_2 hc0_2
 have HB := Zz.mk (Below.refl w.heap.size w)
 have H : ((z28.f k l0_2 a1).bind fun t102 => (if t102 < 0 then (some (-1)) else (some t102))) = some r := h
 clear h
 replace H := OZ_ H
 obtain ⟨t102, A3, H⟩ := H
 by_cases c4 : t102 < 0
 ·rw [if_pos c4] at H
  have c4b0 : decide (t102 < 0) = true := decide_eq_true c4
  clear c4
  obtain rfl := OI_ H
  go_enter Try.func23, Try.ntmps23
  go_wp2_with (first | ((with_reducible refine qAh (N := 2) rfl ?_); refine bx_ 2 #[.int .i64 a0_0, .int .i64 a0_1, .slice A0_2 l0_2.length c0_2] 29 ?_; intro gb101 hg w5 hbox hb; have BK101 := Zz.mk (hbox); have GW101 := Zz.mk ((gw_ hg (B_ HB.out))); have GE101 := GW101; replace HB := Zz.mk (bT_ (B_ HB.out) hb); clear hb hbox hg; obtain ⟨hcz6_0, hcz6_1, hcz6_2, hfz6_0, hfz6_1, hfz6_2⟩ := Z3f_ BK101.out) | ((with_reducible refine gC_ (f := 28) rfl ?_); refine GL_ (some 8) rfl rfl Try.func28 #[.slice A0_2 l0_2.length c0_2, .int .i64 a1] rfl (h := ?_); (with_reducible refine (z28.calls k _ _ l0_2 a1 t102 _ ?side1 ?side2 A3.out).mono ?_); (case side1 => exact KC_ (Kd.C_below HR0_2.out HB.out)); (case side2 => exact HC0_2.out); rintro e w' ⟨rfl, ⟨nd, rfl⟩⟩; refine ⟨_, rfl, ?_⟩))
  go_ret
  exact ⟨F_, B1_ HB.out GE101.out⟩
 rw [if_neg c4] at H
 have c4b0 : decide (t102 < 0) = false := decide_eq_false c4
 clear c4
 obtain rfl := OI_ H
 go_enter Try.func23, Try.ntmps23
 go_wp2_with (first | ((with_reducible refine qAh (N := 2) rfl ?_); refine bx_ 2 #[.int .i64 a0_0, .int .i64 a0_1, .slice A0_2 l0_2.length c0_2] 29 ?_; intro gb101 hg w7 hbox hb; have BK101 := Zz.mk (hbox); have GW101 := Zz.mk ((gw_ hg (B_ HB.out))); have GE101 := GW101; replace HB := Zz.mk (bT_ (B_ HB.out) hb); clear hb hbox hg; obtain ⟨hcz8_0, hcz8_1, hcz8_2, hfz8_0, hfz8_1, hfz8_2⟩ := Z3f_ BK101.out) | ((with_reducible refine gC_ (f := 28) rfl ?_); refine GL_ (some 8) rfl rfl Try.func28 #[.slice A0_2 l0_2.length c0_2, .int .i64 a1] rfl (h := ?_); (with_reducible refine (z28.calls k _ _ l0_2 a1 t102 _ ?side1 ?side2 A3.out).mono ?_); (case side1 => exact KC_ (Kd.C_below HR0_2.out HB.out)); (case side2 => exact HC0_2.out); rintro e w' ⟨rfl, ⟨nd, rfl⟩⟩; refine ⟨_, rfl, ?_⟩))
 go_ret
 exact ⟨F_, B1_ HB.out GE101.out⟩
def z62.f (k : Nat) (a0 : Int) (a1 : Int) (l2 : List (List Int)) : Option (Int × Int × (List (List Int))) := (z104.f k a0 a1 l2).bind fun t102 => (some (a0, a1, t102))
theorem z62.calls (k : Nat) (a0 : Int) (a1 : Int) (A2 : Option Addr) (c2 : Nat) (l2 : List (List Int)) (r1 : Int) (r2 : Int) (r3 : List (List Int)) (w : World) (hr2 : Kd.C (Kd.slice 2 (Kd.int .i64)) w A2 l2.length l2) (hc2 : l2.length ≤ c2) (h : z62.f k a0 a1 l2 = some (r1, r2, r3)) :
  Calls Try.prog 62 #[.int .i64 a0, .int .i64 a1, .slice A2 l2.length c2] w fun e w' => ∃ v2_ : Value, e = .returned (.agg #[.int .i64 r1, .int .i64 r2, v2_]) ∧ Kd.S (Kd.slice 2 (Kd.int .i64)) 25 w' w.heap.size (fun _ => True) v2_ r3 ∧ Below w.heap.size w w' := by
 have hu29 := Try.underlying29
 have HR2 := Zz.mk hr2
 have HC2 := Zz.mk hc2
 clear hr2 hc2
 have HB := Zz.mk (Below.refl w.heap.size w)
 have H : ((z104.f k a0 a1 l2).bind fun t102 => (some (a0, a1, t102))) = some (r1, r2, r3) := h
 clear h
 replace H := OB_ H
 obtain ⟨t102, A40, H⟩ := H
 replace H : (some (a0, a1, t102)) = some (r1, r2, r3) := H
 have A4 := Zz.mk A40
 clear A40
 simp only [Option.some.injEq, Prod.mk.injEq] at H
 obtain ⟨rfl, rfl, rfl⟩ := H
 go_enter Try.func62, Try.ntmps62
 go_wp2_with (first | ((with_reducible refine qAh (N := 6) rfl ?_); refine bx_ 6 #[.int .i64 0, .int .i64 0, .slice none 0 0] 29 ?_; intro gb101 hg w5 hbox hb; have BK101 := Zz.mk (hbox); have GW101 := Zz.mk ((gw_ hg (B_ HB.out))); have GE101 := GW101; replace HB := Zz.mk (bT_ (B_ HB.out) hb); clear hb hbox hg) | ((with_reducible refine gC_ (f := 104) rfl ?_); refine GL_ (some 12) rfl rfl Try.func104 #[.int .i64 a0, .int .i64 a1, .slice A2 l2.length c2] rfl (h := ?_); (with_reducible refine (z104.calls k a0 a1 _ _ l2 t102 _ ?side1 ?side2 A4.out).mono ?_); (case side1 => exact KC_ (Kd.C_below HR2.out HB.out)); (case side2 => exact HC2.out); rintro e w6 ⟨v103, rfl, ho0, hb⟩; refine ⟨_, rfl, ?_⟩; have HO104 := Zz.mk (Kd.S_lower ho0 (bS_ (B1_ HB.out GE101.out))); replace BK101 := Zz.mk (kb_ BK101.out hb); replace HB := Zz.mk (bT_ (B1_ HB.out GE101.out) hb); (try clear hb); (try clear ho0); obtain ⟨Ao7, co7, eo7⟩ := Kd.S_slice HO104.out; subst eo7; obtain ⟨hcz8_0, hcz8_1, hcz8_2, hfz8_0, hfz8_1, hfz8_2⟩ := Z3f_ BK101.out))
 refine bodyPost_ret (results_cell_row rfl _ _ gb101 29 #[.int .i64 a0, .int .i64 a1, .slice Ao7 t102.length co7] (0, 0) _ rfl (by refine BW_ ?_; refine bP_ (cs := #[.int .i64 a0, .int .i64 a1, .slice none 0 0]) ?_ 2 _ rfl; refine BW_ ?_; refine bP_ (cs := #[.int .i64 a0, .int .i64 0, .slice none 0 0]) ?_ 1 _ rfl; refine BW_ ?_; refine bP_ (cs := #[.int .i64 0, .int .i64 0, .slice none 0 0]) ?_ 0 _ rfl; refine BW_ ?_; exact BK101.out) Try.underlying29 rfl (by kernel_rfl)) rfl ?_
 exact ⟨_, F_, by refine SW_ ?_; exact Kd.S_mono (Kd.S_far (p := ⟨gb101, 2, none⟩) (Kd.S_far (p := ⟨gb101, 1, none⟩) (Kd.S_far (p := ⟨gb101, 0, none⟩) (Kd.S_types HO104.out BK101.out (by decide)) (fun _ hk => hk.2) (.int .i64 a0)) (fun _ hk => hk.2) (.int .i64 a1)) (fun _ hk => hk.2) (.slice Ao7 t102.length co7)) (fun _ hk => trivial), B1_ HB.out GE101.out⟩
end Go.Proofs.Ytabfflgoaalapaa.B
