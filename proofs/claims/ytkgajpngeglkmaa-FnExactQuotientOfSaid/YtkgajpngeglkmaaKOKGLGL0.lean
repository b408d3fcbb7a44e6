/- Printed proofs of functions of the program and of the reference, by a program of this work over the kit's printer. -/
import Derived.Test.YtkgajpngeglkmaaKLBBOAD0
import Derived.Test.YtkgajpngeglkmaaKLNIADK0
import Derived.Test.YtkgajpngeglkmaaKMCIMDJ0
import Derived.Test.YtkgajpngeglkmaaKW0
namespace Go.Proofs.Ytkgajpngeglkmaa.B
open Go.RowKit Go.Proofs.YtkgajpngeglkmaaW.PrintWords Go.Proofs.YtkgajpngeglkmaaW.PrintLast Go.Proofs.YtkgajpngeglkmaaW.PrintMore
attribute [local go_sem] qAh qAf qAn qAm qAc qAb qAg qAe
set_option linter.unusedVariables false
set_option linter.unusedSimpArgs false
def z8.l0 : Nat → Int → Int → Int → List (List Int) → Int → Int → List (List Int) → Option ((List (List Int)) × Int)
 | 0, _, _, _, _, _, _, _ => none
 | k + 1, x7, x102000, x102001, x102002, x103000, x103001, x103002 => if x7 < (x103002.length : Int) then (if 0 ≤ x7 then ((z39.f k x102000 x102001 x102002 (rI_ x103002 x7)).bind fun t105 => (if t105 = true then (z8.l0 k (wrap64 (x7 + 1)) x102000 x102001 x102002 x103000 x103001 x103002) else (some (([] : List (List Int)), 6)))) else (none)) else ((z40.f k x102000 x102001 x103002 x102002).bind fun t106 => (some (t106, 0)))
def z8.f (k : Nat) (a0_0 : Int) (a0_1 : Int) (l0_2 : List (List Int)) (a1_0 : Int) (a1_1 : Int) (l1_2 : List (List Int)) : Option ((List (List Int)) × Int) := (z38.f k a0_0 a0_1 l0_2 a1_0 a1_1 l1_2).bind fun t103 => (if t103 = 0 then (z8.l0 k 0 a0_0 a0_1 l0_2 a1_0 a1_1 l1_2) else (some (([] : List (List Int)), t103)))
set_option maxHeartbeats 8000000 in
set_option maxRecDepth 100000 in
theorem z8.calls (k : Nat) (a0_0 : Int) (a0_1 : Int) (A0_2 : Option Addr) (c0_2 : Nat) (l0_2 : List (List Int)) (a1_0 : Int) (a1_1 : Int) (A1_2 : Option Addr) (c1_2 : Nat) (l1_2 : List (List Int)) (r1 : List (List Int)) (r2 : Int) (w : World) (hr0_2 : Kd.C (Kd.slice 2 (Kd.int .i64)) w A0_2 l0_2.length l0_2) (hc0_2 : l0_2.length ≤ c0_2) (hr1_2 : Kd.C (Kd.slice 2 (Kd.int .i64)) w A1_2 l1_2.length l1_2) (hc1_2 : l1_2.length ≤ c1_2) (h : z8.f k a0_0 a0_1 l0_2 a1_0 a1_1 l1_2 = some (r1, r2)) :
  Calls Try.prog 8 #[.agg #[.int .i64 a0_0, .int .i64 a0_1, .slice A0_2 l0_2.length c0_2], .agg #[.int .i64 a1_0, .int .i64 a1_1, .slice A1_2 l1_2.length c1_2]] w fun e w' => ∃ v0_ : Value, e = .returned (.tuple #[v0_, .int .i64 r2]) ∧ Kd.S (Kd.slice 2 (Kd.int .i64)) 40 w' w.heap.size (fun _ => True) v0_ r1 ∧ Below w.heap.size w w' := by
 have hu28 := Try.underlying28
 have HR0_2 := Zz.mk hr0_2
 have HC0_2 := Zz.mk hc0_2
 clear hr0_2 hc0_2
 have HR1_2 := Zz.mk hr1_2
 have HC1_2 := Zz.mk hc1_2
 clear hr1_2 hc1_2
 have HB := Zz.mk (Below.refl w.heap.size w)
 have H : ((z38.f k a0_0 a0_1 l0_2 a1_0 a1_1 l1_2).bind fun t103 => (if t103 = 0 then (z8.l0 k 0 a0_0 a0_1 l0_2 a1_0 a1_1 l1_2) else (some (([] : List (List Int)), t103)))) = some (r1, r2) := h
 clear h
 replace H := OB_ H
 obtain ⟨t103, A30, H⟩ := H
 replace H : (if t103 = 0 then (z8.l0 k 0 a0_0 a0_1 l0_2 a1_0 a1_1 l1_2) else (some (([] : List (List Int)), t103))) = some (r1, r2) := H
 have A3 := Zz.mk A30
 clear A30
 by_cases c4 : t103 = 0
 ·rw [if_pos c4] at H
  have c4b0 : (t103 == 0) = true := beq_iff_eq.mpr c4
  have c4b1 : (t103 != 0) = false := bne_eq_false_iff_eq.mpr c4
  clear c4
  have H' := Zz.mk H
  clear H
  go_enter Try.func8, Try.ntmps8
  go_wp2_with (first | ((with_reducible refine qAi (N := 2) rfl ?_); refine bx_ 2 #[.int .i64 a0_0, .int .i64 a0_1, .slice A0_2 l0_2.length c0_2] 28 ?_; intro gb101 hg w5 hbox hb; have BK101 := Zz.mk (hbox); have GW101 := Zz.mk ((gw_ hg (B_ HB.out))); have GE101 := GW101; replace HB := Zz.mk (bT_ (B_ HB.out) hb); clear hb hbox hg) | ((with_reducible refine qAi (N := 3) rfl ?_); refine bx_ 3 #[.int .i64 a1_0, .int .i64 a1_1, .slice A1_2 l1_2.length c1_2] 28 ?_; intro gb102 hg w6 hbox hb; have BK102 := Zz.mk (hbox); have GW102 := Zz.mk ((gw_ hg (B1_ HB.out GE101.out))); have GE102 := GW102; have NB101_102 := Zz.mk ((nb_ BK101.out hg)); have NB102_101 := Zz.mk NB101_102.out.symm; replace BK101 := Zz.mk (kb_ BK101.out hb); replace HB := Zz.mk (bT_ (B1_ HB.out GE101.out) hb); clear hb hbox hg) | ((with_reducible refine gC_ (f := 38) rfl ?_); refine GL_ (some 8) rfl rfl Try.func38 #[.pointer (some ⟨gb101, 0, none⟩), .pointer (some ⟨gb102, 0, none⟩)] rfl (h := ?_); (with_reducible refine (z38.calls k gb101 a0_0 a0_1 A0_2 c0_2 l0_2 gb102 a1_0 a1_1 A1_2 c1_2 l1_2 t103 _ ?side1 ?side2 ?side3 ?side4 ?side5 ?side6 A3.out).mono ?_); (case side1 => refine BW_ ?_; exact BK101.out); (case side2 => refine BW_ ?_; exact BK102.out); (case side3 => exact KC_ (Kd.C_below HR0_2.out HB.out)); (case side4 => exact HC0_2.out); (case side5 => exact KC_ (Kd.C_below HR1_2.out HB.out)); (case side6 => exact HC1_2.out); rintro e w7 ⟨rfl, hb⟩; refine ⟨_, rfl, ?_⟩; replace BK101 := Zz.mk (kb_ BK101.out hb); replace BK102 := Zz.mk (kb_ BK102.out hb); replace HB := Zz.mk (bT_ (B2_ HB.out GE101.out GE102.out) hb); (try clear hb)))
  go_loopg [7] k (fun kq v7 w' => ∃ (x7_1 : Int), v7 = .int .i64 x7_1 ∧ Zz (z8.l0 kq x7_1 a0_0 a0_1 l0_2 a1_0 a1_1 l1_2 = some (r1, r2)) ∧ Zz (kq ≤ k) ∧ Zz (w'.heap[gb101]? = some (.cells #[.int .i64 a0_0, .int .i64 a0_1, (.slice A0_2 l0_2.length c0_2)] 28 (0, 0))) ∧ Zz (w'.heap[gb102]? = some (.cells #[.int .i64 a1_0, .int .i64 a1_1, (.slice A1_2 l1_2.length c1_2)] 28 (0, 0))) ∧ Zz (Below w.heap.size w w'))
  case atStart => exact ⟨(0), E_, H', ⟨Nat.le_refl _⟩, ⟨KB_ BK101.out⟩, ⟨KB_ BK102.out⟩, ⟨B2_ HB.out GE101.out GE102.out⟩⟩
  case round =>
   clear H'
   (try clear c4);(try clear c4b0);(try clear c4b1)
   obtain ⟨x7_1, rfl, HA, HK1, BK101, BK102, HB⟩ := hrel
   cases gk with
   | zero => exact absurd HA.out (by simp [z8.l0])
   | succ k1 =>
    have H := HA.out
    clear HA
    simp only [z8.l0] at H
    by_cases c8 : x7_1 < (l1_2.length : Int)
    ·rw [if_pos c8] at H
     have c8b0 : decide (x7_1 < (l1_2.length : Int)) = true := decide_eq_true c8
     clear c8
     have c9b0 := O3_ H
     replace H := O2_ H
     replace H := OB_ H
     obtain ⟨t105, A100, H⟩ := H
     replace H : (if t105 = true then (z8.l0 k1 (wrap64 (x7_1 + 1)) a0_0 a0_1 l0_2 a1_0 a1_1 l1_2) else (some (([] : List (List Int)), 6))) = some (r1, r2) := H
     have A10 := Zz.mk A100
     clear A100
     by_cases c11 : t105 = true
     ·subst c11
      have H1 : (z8.l0 k1 (wrap64 (x7_1 + 1)) a0_0 a0_1 l0_2 a1_0 a1_1 l1_2) = some (r1, r2) := by rw [if_pos rfl] at H; exact H
      clear H
      have H := H1
      clear H1
      have H' := Zz.mk H
      clear H
      have hnb12 := NB102_101.out
      have hnc12 := NB101_102.out
      obtain ⟨hcz13_0, hcz13_1, hcz13_2, hfz13_0, hfz13_1, hfz13_2⟩ := Z3f_ BK102.out
      have p104 : 0 ≤ (x7_1 : Int) := D_
      have q104 : x7_1 < (l1_2.length : Int) := D_
      obtain ⟨ad104, A104_0, c104_0, e104, hx104_0, hl104_0, hi104_0⟩ := qAk HR1_2.out x7_1 p104 q104
      cases e104
      replace hx104_0 := (HB.out.cell (World.block_lt_of_cell? w _ hx104_0)).trans hx104_0
      have HR104_0 := Zz.mk hi104_0
      have HC104_0 := Zz.mk hl104_0
      clear hi104_0 hl104_0
      replace p104 := eq_true p104
      replace q104 := eq_true q104
      go_wp2_with (first | ((with_reducible refine gC_ (f := 39) rfl ?_); refine GL_ (some 24) rfl rfl Try.func39 #[.pointer (some ⟨gb101, 0, none⟩), .slice A104_0 (rI_ l1_2 x7_1).length c104_0] rfl (h := ?_); (with_reducible refine (z39.calls k1 gb101 a0_0 a0_1 (fun k_ => k_ < w.heap.size) A0_2 c0_2 l0_2 (fun k_ => k_ < w.heap.size) _ _ (rI_ l1_2 x7_1) true _ ?side1 ?side2 ?side3 A10.out).mono ?_); (case side1 => refine BW_ ?_; exact BK101.out); (case side2 => exact Kd.V_mk HC0_2.out (Kd.F_below (Kd.C_F (Kd.heap_slice 2 (Kd.heap_int .i64)) HR0_2.out) (B2_ HB.out GE101.out GE102.out))); (case side3 => exact Kd.V_mk HC104_0.out (Kd.F_below (Kd.C_F (Kd.heap_int .i64) HR104_0.out) (B2_ HB.out GE101.out GE102.out))); rintro e w14 ⟨rfl, hb⟩; refine ⟨_, rfl, ?_⟩; replace BK101 := Zz.mk (kb_ BK101.out hb); replace BK102 := Zz.mk (kb_ BK102.out hb); replace HB := Zz.mk (bT_ (B2_ HB.out GE101.out GE102.out) hb); (try clear hb)))
      go_roundg k1
      case measure => exact Q1_ HK1
      case rel => exact ⟨(wrap64 (x7_1 + 1)), E_, H', ⟨Q1_ HK1⟩, ⟨KB_ BK101.out⟩, ⟨KB_ BK102.out⟩, ⟨B2_ HB.out GE101.out GE102.out⟩⟩
     replace c11 := Bool.eq_false_iff.mpr c11
     subst c11
     have H1 : (some (([] : List (List Int)), 6)) = some (r1, r2) := by rw [if_neg (show ¬ (false = true) by decide)] at H; exact H
     clear H
     have H := H1
     clear H1
     simp only [Option.some.injEq, Prod.mk.injEq] at H
     obtain ⟨rfl, rfl⟩ := H
     have hnb15 := NB102_101.out
     have hnc15 := NB101_102.out
     obtain ⟨hcz16_0, hcz16_1, hcz16_2, hfz16_0, hfz16_1, hfz16_2⟩ := Z3f_ BK102.out
     have p104 : 0 ≤ (x7_1 : Int) := D_
     have q104 : x7_1 < (l1_2.length : Int) := D_
     obtain ⟨ad104, A104_0, c104_0, e104, hx104_0, hl104_0, hi104_0⟩ := qAk HR1_2.out x7_1 p104 q104
     cases e104
     replace hx104_0 := (HB.out.cell (World.block_lt_of_cell? w _ hx104_0)).trans hx104_0
     have HR104_0 := Zz.mk hi104_0
     have HC104_0 := Zz.mk hl104_0
     clear hi104_0 hl104_0
     replace p104 := eq_true p104
     replace q104 := eq_true q104
     go_wp2_with (first | ((with_reducible refine gC_ (f := 39) rfl ?_); refine GL_ (some 24) rfl rfl Try.func39 #[.pointer (some ⟨gb101, 0, none⟩), .slice A104_0 (rI_ l1_2 x7_1).length c104_0] rfl (h := ?_); (with_reducible refine (z39.calls k1 gb101 a0_0 a0_1 (fun k_ => k_ < w.heap.size) A0_2 c0_2 l0_2 (fun k_ => k_ < w.heap.size) _ _ (rI_ l1_2 x7_1) false _ ?side1 ?side2 ?side3 A10.out).mono ?_); (case side1 => refine BW_ ?_; exact BK101.out); (case side2 => exact Kd.V_mk HC0_2.out (Kd.F_below (Kd.C_F (Kd.heap_slice 2 (Kd.heap_int .i64)) HR0_2.out) (B2_ HB.out GE101.out GE102.out))); (case side3 => exact Kd.V_mk HC104_0.out (Kd.F_below (Kd.C_F (Kd.heap_int .i64) HR104_0.out) (B2_ HB.out GE101.out GE102.out))); rintro e w17 ⟨rfl, hb⟩; refine ⟨_, rfl, ?_⟩; replace BK101 := Zz.mk (kb_ BK101.out hb); replace BK102 := Zz.mk (kb_ BK102.out hb); replace HB := Zz.mk (bT_ (B2_ HB.out GE101.out GE102.out) hb); (try clear hb)))
     go_ret2
     exact ⟨_, F_, by first | exact Kd.S_nil _ _ _ _ _ | exact Kd.N_nil _ _ _ _ _ | exact Kd.V_nil _ _ _ _ _ | exact Kd.Q_nil _ _ _ _ _ | exact Kd.R_nil _ _ _ _ _, B2_ HB.out GE101.out GE102.out⟩
    rw [if_neg c8] at H
    have c8b0 : decide (x7_1 < (l1_2.length : Int)) = false := decide_eq_false c8
    clear c8
    replace H := OB_ H
    obtain ⟨t106, A180, H⟩ := H
    replace H : (some (t106, 0)) = some (r1, r2) := H
    have A18 := Zz.mk A180
    clear A180
    simp only [Option.some.injEq, Prod.mk.injEq] at H
    obtain ⟨rfl, rfl⟩ := H
    have hnb19 := NB102_101.out
    have hnc19 := NB101_102.out
    obtain ⟨hcz20_0, hcz20_1, hcz20_2, hfz20_0, hfz20_1, hfz20_2⟩ := Z3f_ BK102.out
    obtain ⟨hcz21_0, hcz21_1, hcz21_2, hfz21_0, hfz21_1, hfz21_2⟩ := Z3f_ BK101.out
    go_wp2_with (first | ((with_reducible refine gC_ (f := 40) rfl ?_); refine GL_ (some 34) rfl rfl Try.func40 #[.int .i64 a0_0, .int .i64 a0_1, .slice A1_2 l1_2.length c1_2, .slice A0_2 l0_2.length c0_2] rfl (h := ?_); (with_reducible refine (z40.calls k1 a0_0 a0_1 (fun k_ => k_ < w.heap.size) _ _ l1_2 (fun k_ => k_ < w.heap.size) _ _ l0_2 t106 _ ?side1 ?side2 A18.out).mono ?_); (case side1 => exact Kd.V_mk HC1_2.out (Kd.F_below (Kd.C_F (Kd.heap_slice 2 (Kd.heap_int .i64)) HR1_2.out) (B2_ HB.out GE101.out GE102.out))); (case side2 => exact Kd.V_mk HC0_2.out (Kd.F_below (Kd.C_F (Kd.heap_slice 2 (Kd.heap_int .i64)) HR0_2.out) (B2_ HB.out GE101.out GE102.out))); rintro e w22 ⟨v107, rfl, ho0, hb⟩; refine ⟨_, rfl, ?_⟩; have HO108 := Zz.mk (Kd.S_lower (Kd.S_mono (ok' := fun k_ => True) ho0 (fun _ hk_ => trivial)) (bS_ (B2_ HB.out GE101.out GE102.out))); replace BK101 := Zz.mk (kb_ BK101.out hb); replace BK102 := Zz.mk (kb_ BK102.out hb); replace HB := Zz.mk (bT_ (B2_ HB.out GE101.out GE102.out) hb); (try clear hb); (try clear ho0)))
    go_ret2
    exact ⟨_, F_, KS_ HO108.out, B2_ HB.out GE101.out GE102.out⟩
 rw [if_neg c4] at H
 have c4b0 : (t103 == 0) = false := beq_eq_false_iff_ne.mpr c4
 have c4b1 : (t103 != 0) = true := bne_iff_ne.mpr c4
 simp only [Option.some.injEq, Prod.mk.injEq] at H
 obtain ⟨rfl, rfl⟩ := H
 go_enter Try.func8, Try.ntmps8
 go_wp2_with (first | ((with_reducible refine qAi (N := 2) rfl ?_); refine bx_ 2 #[.int .i64 a0_0, .int .i64 a0_1, .slice A0_2 l0_2.length c0_2] 28 ?_; intro gb101 hg w23 hbox hb; have BK101 := Zz.mk (hbox); have GW101 := Zz.mk ((gw_ hg (B_ HB.out))); have GE101 := GW101; replace HB := Zz.mk (bT_ (B_ HB.out) hb); clear hb hbox hg) | ((with_reducible refine qAi (N := 3) rfl ?_); refine bx_ 3 #[.int .i64 a1_0, .int .i64 a1_1, .slice A1_2 l1_2.length c1_2] 28 ?_; intro gb102 hg w24 hbox hb; have BK102 := Zz.mk (hbox); have GW102 := Zz.mk ((gw_ hg (B1_ HB.out GE101.out))); have GE102 := GW102; have NB101_102 := Zz.mk ((nb_ BK101.out hg)); have NB102_101 := Zz.mk NB101_102.out.symm; replace BK101 := Zz.mk (kb_ BK101.out hb); replace HB := Zz.mk (bT_ (B1_ HB.out GE101.out) hb); clear hb hbox hg) | ((with_reducible refine gC_ (f := 38) rfl ?_); refine GL_ (some 8) rfl rfl Try.func38 #[.pointer (some ⟨gb101, 0, none⟩), .pointer (some ⟨gb102, 0, none⟩)] rfl (h := ?_); (with_reducible refine (z38.calls k gb101 a0_0 a0_1 A0_2 c0_2 l0_2 gb102 a1_0 a1_1 A1_2 c1_2 l1_2 t103 _ ?side1 ?side2 ?side3 ?side4 ?side5 ?side6 A3.out).mono ?_); (case side1 => refine BW_ ?_; exact BK101.out); (case side2 => refine BW_ ?_; exact BK102.out); (case side3 => exact KC_ (Kd.C_below HR0_2.out HB.out)); (case side4 => exact HC0_2.out); (case side5 => exact KC_ (Kd.C_below HR1_2.out HB.out)); (case side6 => exact HC1_2.out); rintro e w25 ⟨rfl, hb⟩; refine ⟨_, rfl, ?_⟩; replace BK101 := Zz.mk (kb_ BK101.out hb); replace BK102 := Zz.mk (kb_ BK102.out hb); replace HB := Zz.mk (bT_ (B2_ HB.out GE101.out GE102.out) hb); (try clear hb)))
 go_ret2
 exact ⟨_, F_, by first | exact Kd.S_nil _ _ _ _ _ | exact Kd.N_nil _ _ _ _ _ | exact Kd.V_nil _ _ _ _ _ | exact Kd.Q_nil _ _ _ _ _ | exact Kd.R_nil _ _ _ _ _, B2_ HB.out GE101.out GE102.out⟩
end Go.Proofs.Ytkgajpngeglkmaa.B
