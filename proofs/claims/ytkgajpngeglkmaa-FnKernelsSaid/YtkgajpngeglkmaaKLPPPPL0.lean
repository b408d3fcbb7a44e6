/- Printed proofs of functions of the program and of the reference, by a program of this work over the kit's printer. -/
import Derived.Test.YtkgajpngeglkmaaKAMGLJJ0
import Derived.Test.YtkgajpngeglkmaaKAOAHPH0
import Derived.Test.YtkgajpngeglkmaaKLBBOAD0
import Derived.Test.YtkgajpngeglkmaaKLGGKON0
import Derived.Test.YtkgajpngeglkmaaKMFOOHB0
import Derived.Test.YtkgajpngeglkmaaKMMKMDJ0
import Derived.Test.YtkgajpngeglkmaaKPIECNI0
import Derived.Test.YtkgajpngeglkmaaKW0
set_option maxHeartbeats 8000000
set_option maxRecDepth 100000
namespace Go.Proofs.Ytkgajpngeglkmaa.B
open Go.RowKit Go.Proofs.YtkgajpngeglkmaaW.PrintWords Go.Proofs.YtkgajpngeglkmaaW.PrintLast Go.Proofs.YtkgajpngeglkmaaW.PrintMore
attribute [local go_sem] qAr qAp qAv qAu qAm qAl qAq qAo
set_option linter.unusedVariables false
set_option linter.unusedSimpArgs false
def z117.f (k : Nat) (a0_0 : Int) (a0_1 : Int) (a0_2 : Int) (l0_3 : List Int) : Option (Int × Int × Int × List Int) := (z169.f k a0_0 a0_2 a0_1 a0_0 a0_1 a0_2 l0_3).bind fun bt103 => (some (bt103.1, bt103.2.1, bt103.2.2.1, bt103.2.2.2))
theorem z117.calls (k : Nat) (a0_0 : Int) (a0_1 : Int) (a0_2 : Int) (A0_3 : Option Addr) (c0_3 : Nat) (l0_3 : List Int) (r1 : Int) (r2 : Int) (r3 : Int) (r4 : List Int) (w : World) (hr0_3 : Kd.C (Kd.int .i64) w A0_3 l0_3.length l0_3) (hc0_3 : l0_3.length ≤ c0_3) (h : z117.f k a0_0 a0_1 a0_2 l0_3 = some (r1, r2, r3, r4)) :
  Calls Try.prog 117 #[.agg #[.int .i64 a0_0, .int .i64 a0_1, .int .i64 a0_2, .slice A0_3 l0_3.length c0_3]] w fun e w' => ∃ v3_ : Value, e = .returned (.agg #[.int .i64 r1, .int .i64 r2, .int .i64 r3, v3_]) ∧ Kd.R (Kd.int .i64) 2 w' w.heap.size (fun _ => True) v3_ r4 ∧ Below w.heap.size w w' := by
 have hu55 := Try.underlying55
 have HR0_3 := Zz.mk hr0_3
 have HC0_3 := Zz.mk hc0_3
 clear hr0_3 hc0_3
 have HB := Zz.mk (Below.refl w.heap.size w)
 have H : ((z169.f k a0_0 a0_2 a0_1 a0_0 a0_1 a0_2 l0_3).bind fun bt103 => (some (bt103.1, bt103.2.1, bt103.2.2.1, bt103.2.2.2))) = some (r1, r2, r3, r4) := h
 clear h
 replace H := OB_ H
 obtain ⟨⟨t103, t104, t105, t106⟩, A20, H⟩ := H
 replace H : (some (t103, t104, t105, t106)) = some (r1, r2, r3, r4) := H
 have A2 := Zz.mk A20
 clear A20
 simp only [Option.some.injEq, Prod.mk.injEq] at H
 obtain ⟨rfl, rfl, rfl, rfl⟩ := H
 go_enter Try.func117, Try.ntmps117
 go_wp2_with (first | ((with_reducible refine qAn (N := 1) rfl ?_); refine bx_ 1 #[.int .i64 a0_0, .int .i64 a0_1, .int .i64 a0_2, .slice A0_3 l0_3.length c0_3] 55 ?_; intro gb101 hg w3 hbox hb; have BK101 := Zz.mk (hbox); have GW101 := Zz.mk ((gw_ hg (B_ HB.out))); have GE101 := GW101; replace HB := Zz.mk (bT_ (B_ HB.out) hb); clear hb hbox hg) | ((with_reducible refine qAn (N := 2) rfl ?_); refine bx_ 2 #[.int .i64 0, .int .i64 0, .int .i64 0, .slice none 0 0] 55 ?_; intro gb102 hg w4 hbox hb; have BK102 := Zz.mk (hbox); have GW102 := Zz.mk ((gw_ hg (B1_ HB.out GE101.out))); have GE102 := GW102; have NB101_102 := Zz.mk ((nb_ BK101.out hg)); have NB102_101 := Zz.mk NB101_102.out.symm; replace BK101 := Zz.mk (kb_ BK101.out hb); replace HB := Zz.mk (bT_ (B1_ HB.out GE101.out) hb); clear hb hbox hg; have hnb5 := NB101_102.out; have hnc5 := NB102_101.out; obtain ⟨hcz6_0, hcz6_1, hcz6_2, hcz6_3, hfz6_0, hfz6_1, hfz6_2, hfz6_3⟩ := Z4f_ BK101.out) | ((with_reducible refine gC_ (f := 99) rfl ?_); refine GL_ (some 10) rfl rfl Try.func99 #[.int .i64 a0_0, .int .i64 a0_2, .int .i64 a0_1, .func (.func 135) #[] #[.pointer (some ⟨gb101, 0, none⟩)]] rfl (h := ?_); (with_reducible refine (z169.calls k a0_0 a0_2 a0_1 gb101 a0_0 a0_1 a0_2 A0_3 c0_3 l0_3 t103 t104 t105 t106 _ ?side1 ?side2 ?side3 A2.out).mono ?_); (case side1 => refine BW_ ?_; exact BK101.out); (case side2 => exact KC_ (Kd.C_below HR0_3.out HB.out)); (case side3 => exact HC0_3.out); rintro e w7 ⟨v107, rfl, ho0, hb⟩; refine ⟨_, rfl, ?_⟩; have HO108 := Zz.mk (Kd.R_lower ho0 (bS_ (B2_ HB.out GE101.out GE102.out))); replace BK101 := Zz.mk (kb_ BK101.out hb); replace BK102 := Zz.mk (kb_ BK102.out hb); replace HB := Zz.mk (bT_ (B2_ HB.out GE101.out GE102.out) hb); (try clear hb); (try clear ho0); obtain ⟨hcz8_0, hcz8_1, hcz8_2, hcz8_3, hfz8_0, hfz8_1, hfz8_2, hfz8_3⟩ := Z4f_ BK102.out; obtain ⟨Ao9, co9, eo9⟩ := Kd.R_slice HO108.out; subst eo9))
 refine bodyPost_ret (results_cell_row rfl _ _ gb102 55 #[.int .i64 t103, .int .i64 t104, .int .i64 t105, .slice Ao9 t106.length co9] (0, 0) _ rfl (by refine BW_ ?_; refine bP_ (cs := #[.int .i64 t103, .int .i64 t104, .int .i64 t105, .slice none 0 0]) ?_ 3 _ rfl; refine BW_ ?_; refine bP_ (cs := #[.int .i64 t103, .int .i64 t104, .int .i64 0, .slice none 0 0]) ?_ 2 _ rfl; refine BW_ ?_; refine bP_ (cs := #[.int .i64 t103, .int .i64 0, .int .i64 0, .slice none 0 0]) ?_ 1 _ rfl; refine BW_ ?_; refine bP_ (cs := #[.int .i64 0, .int .i64 0, .int .i64 0, .slice none 0 0]) ?_ 0 _ rfl; refine BW_ ?_; exact BK102.out) Try.underlying55 rfl (by kernel_rfl)) rfl ?_
 exact ⟨_, F_, by refine RW_ ?_; exact Kd.R_mono (Kd.R_far (p := ⟨gb102, 3, none⟩) (Kd.R_far (p := ⟨gb102, 2, none⟩) (Kd.R_far (p := ⟨gb102, 1, none⟩) (Kd.R_far (p := ⟨gb102, 0, none⟩) (Kd.R_types HO108.out BK102.out (by decide)) (fun _ hk => hk.2) (.int .i64 t103)) (fun _ hk => hk.2) (.int .i64 t104)) (fun _ hk => hk.2) (.int .i64 t105)) (fun _ hk => hk.2) (.slice Ao9 t106.length co9)) (fun _ hk => trivial), B2_ HB.out GE101.out GE102.out⟩
def z81.f (k : Nat) (a0_0 : Int) (a0_1 : Int) (a0_2 : Int) (l0_3 : List Int) : Option ((List (List Int))) := (z117.f k a0_0 a0_1 a0_2 l0_3).bind fun bt102 => ((z56.f k bt102.1 bt102.2.1 bt102.2.2.1 bt102.2.2.2).bind fun t108 => (some t108))
theorem z81.calls (k : Nat) (a0_0 : Int) (a0_1 : Int) (a0_2 : Int) (A0_3 : Option Addr) (c0_3 : Nat) (l0_3 : List Int) (r : List (List Int)) (w : World) (hr0_3 : Kd.C (Kd.int .i64) w A0_3 l0_3.length l0_3) (hc0_3 : l0_3.length ≤ c0_3) (h : z81.f k a0_0 a0_1 a0_2 l0_3 = some r) :
  Calls Try.prog 81 #[.agg #[.int .i64 a0_0, .int .i64 a0_1, .int .i64 a0_2, .slice A0_3 l0_3.length c0_3]] w fun e w' => ∃ v0_ : Value, e = .returned (v0_) ∧ Kd.S (Kd.slice 2 (Kd.int .i64)) 40 w' w.heap.size (fun _ => True) v0_ r ∧ Below w.heap.size w w' := by
 have hu55 := Try.underlying55
 have HR0_3 := Zz.mk hr0_3
 have HC0_3 := Zz.mk hc0_3
 clear hr0_3 hc0_3
 have HB := Zz.mk (Below.refl w.heap.size w)
 have H : ((z117.f k a0_0 a0_1 a0_2 l0_3).bind fun bt102 => ((z56.f k bt102.1 bt102.2.1 bt102.2.2.1 bt102.2.2.2).bind fun t108 => (some t108))) = some r := h
 clear h
 replace H := OB_ H
 obtain ⟨⟨t102, t103, t104, t105⟩, A20, H⟩ := H
 try dsimp only at H
 have A2 := Zz.mk A20
 clear A20
 replace H := OZ_ H
 obtain ⟨t108, A3, H⟩ := H
 obtain rfl := OI_ H
 go_enter Try.func81, Try.ntmps81
 go_wp2_with (first | ((with_reducible refine qAn (N := 1) rfl ?_); refine bx_ 1 #[.int .i64 a0_0, .int .i64 a0_1, .int .i64 a0_2, .slice A0_3 l0_3.length c0_3] 55 ?_; intro gb101 hg w4 hbox hb; have BK101 := Zz.mk (hbox); have GW101 := Zz.mk ((gw_ hg (B_ HB.out))); have GE101 := GW101; replace HB := Zz.mk (bT_ (B_ HB.out) hb); clear hb hbox hg; obtain ⟨hcz5_0, hcz5_1, hcz5_2, hcz5_3, hfz5_0, hfz5_1, hfz5_2, hfz5_3⟩ := Z4f_ BK101.out) | ((with_reducible refine gC_ (f := 117) rfl ?_); refine GL_ (some 4) rfl rfl Try.func117 #[.agg #[.int .i64 a0_0, .int .i64 a0_1, .int .i64 a0_2, .slice A0_3 l0_3.length c0_3]] rfl (h := ?_); (with_reducible refine (z117.calls k a0_0 a0_1 a0_2 _ _ l0_3 t102 t103 t104 t105 _ ?side1 ?side2 A2.out).mono ?_); (case side1 => exact KC_ (Kd.C_below HR0_3.out HB.out)); (case side2 => exact HC0_3.out); rintro e w6 ⟨v106, rfl, ho0, hb⟩; refine ⟨_, rfl, ?_⟩; have HO107 := Zz.mk (Kd.R_lower ho0 (bS_ (B1_ HB.out GE101.out))); replace BK101 := Zz.mk (kb_ BK101.out hb); replace HB := Zz.mk (bT_ (B1_ HB.out GE101.out) hb); (try clear hb); (try clear ho0); obtain ⟨Ao7, co7, eo7⟩ := Kd.R_slice HO107.out; subst eo7) | ((with_reducible refine gC_ (f := 56) rfl ?_); refine GL_ (some 5) rfl rfl Try.func56 #[.agg #[.int .i64 t102, .int .i64 t103, .int .i64 t104, .slice Ao7 t105.length co7]] rfl (h := ?_); (with_reducible refine (z56.calls k t102 t103 t104 _ _ t105 t108 _ ?side1 ?side2 A3.out).mono ?_); (case side1 => exact KC_ (Kd.R_reads' HO107.out).2.2); (case side2 => exact (Kd.R_reads' HO107.out).2.1); rintro e w8 ⟨v109, rfl, ho0, hb⟩; refine ⟨_, rfl, ?_⟩; have HO110 := Zz.mk (Kd.S_lower (Kd.S_new' ho0 (Kd.R_lt (KR_ HO107.out))) (bS_ (B1_ HB.out GE101.out))); replace HO107 := Zz.mk (Kd.R_below (KR_ HO107.out) hb); replace BK101 := Zz.mk (kb_ BK101.out hb); replace HB := Zz.mk (bT_ (B1_ HB.out GE101.out) hb); (try clear hb); (try clear ho0)))
 go_ret
 exact ⟨_, F_, by refine SW_ ?_; exact Kd.S_mono HO110.out (fun _ hk => trivial), B1_ HB.out GE101.out⟩
def z31.f (k : Nat) (a0_0 : Int) (a0_1 : Int) (a0_2 : Int) (l0_3 : List Int) : Option ((List (List Int)) × Int) := (z79.f k a0_0 a0_1 a0_2 l0_3).bind fun t102 => (if t102 = true then ((z80.f k a0_0 a0_1 a0_2 l0_3).bind fun t103 => (some (t103, 0))) else (some (([] : List (List Int)), 1)))
theorem z31.calls (k : Nat) (a0_0 : Int) (a0_1 : Int) (a0_2 : Int) (A0_3 : Option Addr) (c0_3 : Nat) (l0_3 : List Int) (r1 : List (List Int)) (r2 : Int) (w : World) (hr0_3 : Kd.C (Kd.int .i64) w A0_3 l0_3.length l0_3) (hc0_3 : l0_3.length ≤ c0_3) (h : z31.f k a0_0 a0_1 a0_2 l0_3 = some (r1, r2)) :
  Calls Try.prog 31 #[.agg #[.int .i64 a0_0, .int .i64 a0_1, .int .i64 a0_2, .slice A0_3 l0_3.length c0_3]] w fun e w' => ∃ v0_ : Value, e = .returned (.tuple #[v0_, .int .i64 r2]) ∧ Kd.S (Kd.slice 2 (Kd.int .i64)) 40 w' w.heap.size (fun _ => True) v0_ r1 ∧ Below w.heap.size w w' := by
 have hu55 := Try.underlying55
 have HR0_3 := Zz.mk hr0_3
 have HC0_3 := Zz.mk hc0_3
 clear hr0_3 hc0_3
 have HB := Zz.mk (Below.refl w.heap.size w)
 have H : ((z79.f k a0_0 a0_1 a0_2 l0_3).bind fun t102 => (if t102 = true then ((z80.f k a0_0 a0_1 a0_2 l0_3).bind fun t103 => (some (t103, 0))) else (some (([] : List (List Int)), 1)))) = some (r1, r2) := h
 clear h
 replace H := OB_ H
 obtain ⟨t102, A20, H⟩ := H
 replace H : (if t102 = true then ((z80.f k a0_0 a0_1 a0_2 l0_3).bind fun t103 => (some (t103, 0))) else (some (([] : List (List Int)), 1))) = some (r1, r2) := H
 have A2 := Zz.mk A20
 clear A20
 by_cases c3 : t102 = true
 ·subst c3
  have H1 : ((z80.f k a0_0 a0_1 a0_2 l0_3).bind fun t103 => (some (t103, 0))) = some (r1, r2) := by rw [if_pos rfl] at H; exact H
  clear H
  have H := H1
  clear H1
  replace H := OB_ H
  obtain ⟨t103, A40, H⟩ := H
  replace H : (some (t103, 0)) = some (r1, r2) := H
  have A4 := Zz.mk A40
  clear A40
  simp only [Option.some.injEq, Prod.mk.injEq] at H
  obtain ⟨rfl, rfl⟩ := H
  go_enter Try.func31, Try.ntmps31
  go_wp2_with (first | ((with_reducible refine qAn (N := 1) rfl ?_); refine bx_ 1 #[.int .i64 a0_0, .int .i64 a0_1, .int .i64 a0_2, .slice A0_3 l0_3.length c0_3] 55 ?_; intro gb101 hg w5 hbox hb; have BK101 := Zz.mk (hbox); have GW101 := Zz.mk ((gw_ hg (B_ HB.out))); have GE101 := GW101; replace HB := Zz.mk (bT_ (B_ HB.out) hb); clear hb hbox hg; obtain ⟨hcz6_0, hcz6_1, hcz6_2, hcz6_3, hfz6_0, hfz6_1, hfz6_2, hfz6_3⟩ := Z4f_ BK101.out) | ((with_reducible refine gC_ (f := 79) rfl ?_); refine GL_ (some 5) rfl rfl Try.func79 #[.agg #[.int .i64 a0_0, .int .i64 a0_1, .int .i64 a0_2, .slice A0_3 l0_3.length c0_3]] rfl (h := ?_); (with_reducible refine (z79.calls k a0_0 a0_1 a0_2 _ _ l0_3 true _ ?side1 ?side2 A2.out).mono ?_); (case side1 => exact KC_ (Kd.C_below HR0_3.out HB.out)); (case side2 => exact HC0_3.out); rintro e w7 ⟨rfl, hb⟩; refine ⟨_, rfl, ?_⟩; replace BK101 := Zz.mk (kb_ BK101.out hb); replace HB := Zz.mk (bT_ (B1_ HB.out GE101.out) hb); (try clear hb); obtain ⟨hcz8_0, hcz8_1, hcz8_2, hcz8_3, hfz8_0, hfz8_1, hfz8_2, hfz8_3⟩ := Z4f_ BK101.out) | ((with_reducible refine gC_ (f := 80) rfl ?_); refine GL_ (some 8) rfl rfl Try.func80 #[.agg #[.int .i64 a0_0, .int .i64 a0_1, .int .i64 a0_2, .slice A0_3 l0_3.length c0_3]] rfl (h := ?_); (with_reducible refine (z80.calls k a0_0 a0_1 a0_2 _ _ l0_3 t103 _ ?side1 ?side2 A4.out).mono ?_); (case side1 => exact KC_ (Kd.C_below HR0_3.out HB.out)); (case side2 => exact HC0_3.out); rintro e w9 ⟨v104, rfl, ho0, hb⟩; refine ⟨_, rfl, ?_⟩; have HO105 := Zz.mk (Kd.S_lower ho0 (bS_ (B1_ HB.out GE101.out))); replace BK101 := Zz.mk (kb_ BK101.out hb); replace HB := Zz.mk (bT_ (B1_ HB.out GE101.out) hb); (try clear hb); (try clear ho0)))
  go_ret2
  exact ⟨_, F_, KS_ HO105.out, B1_ HB.out GE101.out⟩
 replace c3 := Bool.eq_false_iff.mpr c3
 subst c3
 have H1 : (some (([] : List (List Int)), 1)) = some (r1, r2) := by rw [if_neg (show ¬ (false = true) by decide)] at H; exact H
 clear H
 have H := H1
 clear H1
 simp only [Option.some.injEq, Prod.mk.injEq] at H
 obtain ⟨rfl, rfl⟩ := H
 go_enter Try.func31, Try.ntmps31
 go_wp2_with (first | ((with_reducible refine qAn (N := 1) rfl ?_); refine bx_ 1 #[.int .i64 a0_0, .int .i64 a0_1, .int .i64 a0_2, .slice A0_3 l0_3.length c0_3] 55 ?_; intro gb101 hg w10 hbox hb; have BK101 := Zz.mk (hbox); have GW101 := Zz.mk ((gw_ hg (B_ HB.out))); have GE101 := GW101; replace HB := Zz.mk (bT_ (B_ HB.out) hb); clear hb hbox hg; obtain ⟨hcz11_0, hcz11_1, hcz11_2, hcz11_3, hfz11_0, hfz11_1, hfz11_2, hfz11_3⟩ := Z4f_ BK101.out) | ((with_reducible refine gC_ (f := 79) rfl ?_); refine GL_ (some 5) rfl rfl Try.func79 #[.agg #[.int .i64 a0_0, .int .i64 a0_1, .int .i64 a0_2, .slice A0_3 l0_3.length c0_3]] rfl (h := ?_); (with_reducible refine (z79.calls k a0_0 a0_1 a0_2 _ _ l0_3 false _ ?side1 ?side2 A2.out).mono ?_); (case side1 => exact KC_ (Kd.C_below HR0_3.out HB.out)); (case side2 => exact HC0_3.out); rintro e w12 ⟨rfl, hb⟩; refine ⟨_, rfl, ?_⟩; replace BK101 := Zz.mk (kb_ BK101.out hb); replace HB := Zz.mk (bT_ (B1_ HB.out GE101.out) hb); (try clear hb)))
 go_ret2
 exact ⟨_, F_, by first | exact Kd.S_nil _ _ _ _ _ | exact Kd.N_nil _ _ _ _ _ | exact Kd.V_nil _ _ _ _ _ | exact Kd.Q_nil _ _ _ _ _ | exact Kd.R_nil _ _ _ _ _, B1_ HB.out GE101.out⟩
def z34.f (k : Nat) (a0_0 : Int) (a0_1 : Int) (a0_2 : Int) (l0_3 : List Int) (l1 : List Int) : Option (List Int × Int) := (z82.f k a0_0 a0_1 a0_2 l0_3).bind fun t102 => (if t102 = true then ((z84.f k l1 a0_2 a0_0).bind fun t103 => (if t103 = true then ((z85.f k a0_0 a0_1 a0_2 l0_3 l1).bind fun t104 => (some (t104, 0))) else (some (([] : List Int), 1)))) else (some (([] : List Int), 1)))
theorem z34.calls (k : Nat) (a0_0 : Int) (a0_1 : Int) (a0_2 : Int) (A0_3 : Option Addr) (c0_3 : Nat) (l0_3 : List Int) (A1 : Option Addr) (c1 : Nat) (l1 : List Int) (r1 : List Int) (r2 : Int) (w : World) (hr0_3 : Kd.C (Kd.int .i64) w A0_3 l0_3.length l0_3) (hc0_3 : l0_3.length ≤ c0_3) (hr1 : Kd.C (Kd.int .i64) w A1 l1.length l1) (hc1 : l1.length ≤ c1) (h : z34.f k a0_0 a0_1 a0_2 l0_3 l1 = some (r1, r2)) :
  Calls Try.prog 34 #[.agg #[.int .i64 a0_0, .int .i64 a0_1, .int .i64 a0_2, .slice A0_3 l0_3.length c0_3], .slice A1 l1.length c1] w fun e w' => ∃ v0_ : Value, e = .returned (.tuple #[v0_, .int .i64 r2]) ∧ Kd.R (Kd.int .i64) 2 w' w.heap.size (fun _ => True) v0_ r1 ∧ Below w.heap.size w w' := by
 have hu55 := Try.underlying55
 have HR0_3 := Zz.mk hr0_3
 have HC0_3 := Zz.mk hc0_3
 clear hr0_3 hc0_3
 have HR1 := Zz.mk hr1
 have HC1 := Zz.mk hc1
 clear hr1 hc1
 have HB := Zz.mk (Below.refl w.heap.size w)
 have H : ((z82.f k a0_0 a0_1 a0_2 l0_3).bind fun t102 => (if t102 = true then ((z84.f k l1 a0_2 a0_0).bind fun t103 => (if t103 = true then ((z85.f k a0_0 a0_1 a0_2 l0_3 l1).bind fun t104 => (some (t104, 0))) else (some (([] : List Int), 1)))) else (some (([] : List Int), 1)))) = some (r1, r2) := h
 clear h
 replace H := OB_ H
 obtain ⟨t102, A30, H⟩ := H
 replace H : (if t102 = true then ((z84.f k l1 a0_2 a0_0).bind fun t103 => (if t103 = true then ((z85.f k a0_0 a0_1 a0_2 l0_3 l1).bind fun t104 => (some (t104, 0))) else (some (([] : List Int), 1)))) else (some (([] : List Int), 1))) = some (r1, r2) := H
 have A3 := Zz.mk A30
 clear A30
 by_cases c4 : t102 = true
 ·subst c4
  have H1 : ((z84.f k l1 a0_2 a0_0).bind fun t103 => (if t103 = true then ((z85.f k a0_0 a0_1 a0_2 l0_3 l1).bind fun t104 => (some (t104, 0))) else (some (([] : List Int), 1)))) = some (r1, r2) := by rw [if_pos rfl] at H; exact H
  clear H
  have H := H1
  clear H1
  replace H := OB_ H
  obtain ⟨t103, A50, H⟩ := H
  replace H : (if t103 = true then ((z85.f k a0_0 a0_1 a0_2 l0_3 l1).bind fun t104 => (some (t104, 0))) else (some (([] : List Int), 1))) = some (r1, r2) := H
  have A5 := Zz.mk A50
  clear A50
  by_cases c6 : t103 = true
  ·subst c6
   have H1 : ((z85.f k a0_0 a0_1 a0_2 l0_3 l1).bind fun t104 => (some (t104, 0))) = some (r1, r2) := by rw [if_pos rfl] at H; exact H
   clear H
   have H := H1
   clear H1
   replace H := OB_ H
   obtain ⟨t104, A70, H⟩ := H
   replace H : (some (t104, 0)) = some (r1, r2) := H
   have A7 := Zz.mk A70
   clear A70
   simp only [Option.some.injEq, Prod.mk.injEq] at H
   obtain ⟨rfl, rfl⟩ := H
   go_enter Try.func34, Try.ntmps34
   go_wp2_with (first | ((with_reducible refine qAn (N := 2) rfl ?_); refine bx_ 2 #[.int .i64 a0_0, .int .i64 a0_1, .int .i64 a0_2, .slice A0_3 l0_3.length c0_3] 55 ?_; intro gb101 hg w8 hbox hb; have BK101 := Zz.mk (hbox); have GW101 := Zz.mk ((gw_ hg (B_ HB.out))); have GE101 := GW101; replace HB := Zz.mk (bT_ (B_ HB.out) hb); clear hb hbox hg) | ((with_reducible refine gC_ (f := 82) rfl ?_); refine GL_ (some 6) rfl rfl Try.func82 #[.pointer (some ⟨gb101, 0, none⟩)] rfl (h := ?_); (with_reducible refine (z82.calls k gb101 a0_0 a0_1 a0_2 A0_3 c0_3 l0_3 true _ ?side1 ?side2 ?side3 A3.out).mono ?_); (case side1 => refine BW_ ?_; exact BK101.out); (case side2 => exact KC_ (Kd.C_below HR0_3.out HB.out)); (case side3 => exact HC0_3.out); rintro e w9 ⟨rfl, hb⟩; refine ⟨_, rfl, ?_⟩; replace BK101 := Zz.mk (kb_ BK101.out hb); replace HB := Zz.mk (bT_ (B1_ HB.out GE101.out) hb); (try clear hb); obtain ⟨hcz10_0, hcz10_1, hcz10_2, hcz10_3, hfz10_0, hfz10_1, hfz10_2, hfz10_3⟩ := Z4f_ BK101.out) | (go_at_call 84; (with_reducible refine (z84.calls k _ _ l1 a0_2 a0_0 true _ ?side1 ?side2 A5.out).mono ?_); (case side1 => exact KC_ (Kd.C_below HR1.out HB.out)); (case side2 => exact HC1.out); rintro e w' ⟨rfl, ⟨nd, rfl⟩⟩) | ((with_reducible refine gC_ (f := 85) rfl ?_); refine GL_ (some 18) rfl rfl Try.func85 #[.pointer (some ⟨gb101, 0, none⟩), .slice A1 l1.length c1] rfl (h := ?_); (with_reducible refine (z85.calls k gb101 a0_0 a0_1 a0_2 A0_3 c0_3 l0_3 _ _ l1 t104 _ ?side1 ?side2 ?side3 ?side4 ?side5 A7.out).mono ?_); (case side1 => refine BW_ ?_; exact BK101.out); (case side2 => repeat (first | exact (Kd.C_below HR0_3.out (B1_ HB.out GE101.out)) | (with_reducible refine Kd.C_alloc ?_ _) | (with_reducible refine Kd.C_drewN ?_ _) | (with_reducible refine Kd.C_drew ?_))); (case side3 => exact HC0_3.out); (case side4 => repeat (first | exact (Kd.C_below HR1.out (B1_ HB.out GE101.out)) | (with_reducible refine Kd.C_alloc ?_ _) | (with_reducible refine Kd.C_drewN ?_ _) | (with_reducible refine Kd.C_drew ?_))); (case side5 => exact HC1.out); rintro e w11 ⟨v105, rfl, ho0, hb⟩; refine ⟨_, rfl, ?_⟩; have HO106 := Zz.mk (Kd.R_lower ho0 (bS_ (B1_ HB.out GE101.out))); replace BK101 := Zz.mk (kb_ BK101.out hb); replace HB := Zz.mk (bT_ (B1_ HB.out GE101.out) hb); (try clear hb); (try clear ho0)))
   go_ret2
   exact ⟨_, F_, KR_ HO106.out, B1_ HB.out GE101.out⟩
  replace c6 := Bool.eq_false_iff.mpr c6
  subst c6
  have H1 : (some (([] : List Int), 1)) = some (r1, r2) := by rw [if_neg (show ¬ (false = true) by decide)] at H; exact H
  clear H
  have H := H1
  clear H1
  simp only [Option.some.injEq, Prod.mk.injEq] at H
  obtain ⟨rfl, rfl⟩ := H
  go_enter Try.func34, Try.ntmps34
  go_wp2_with (first | ((with_reducible refine qAn (N := 2) rfl ?_); refine bx_ 2 #[.int .i64 a0_0, .int .i64 a0_1, .int .i64 a0_2, .slice A0_3 l0_3.length c0_3] 55 ?_; intro gb101 hg w12 hbox hb; have BK101 := Zz.mk (hbox); have GW101 := Zz.mk ((gw_ hg (B_ HB.out))); have GE101 := GW101; replace HB := Zz.mk (bT_ (B_ HB.out) hb); clear hb hbox hg) | ((with_reducible refine gC_ (f := 82) rfl ?_); refine GL_ (some 6) rfl rfl Try.func82 #[.pointer (some ⟨gb101, 0, none⟩)] rfl (h := ?_); (with_reducible refine (z82.calls k gb101 a0_0 a0_1 a0_2 A0_3 c0_3 l0_3 true _ ?side1 ?side2 ?side3 A3.out).mono ?_); (case side1 => refine BW_ ?_; exact BK101.out); (case side2 => exact KC_ (Kd.C_below HR0_3.out HB.out)); (case side3 => exact HC0_3.out); rintro e w13 ⟨rfl, hb⟩; refine ⟨_, rfl, ?_⟩; replace BK101 := Zz.mk (kb_ BK101.out hb); replace HB := Zz.mk (bT_ (B1_ HB.out GE101.out) hb); (try clear hb); obtain ⟨hcz14_0, hcz14_1, hcz14_2, hcz14_3, hfz14_0, hfz14_1, hfz14_2, hfz14_3⟩ := Z4f_ BK101.out) | (go_at_call 84; (with_reducible refine (z84.calls k _ _ l1 a0_2 a0_0 false _ ?side1 ?side2 A5.out).mono ?_); (case side1 => exact KC_ (Kd.C_below HR1.out HB.out)); (case side2 => exact HC1.out); rintro e w' ⟨rfl, ⟨nd, rfl⟩⟩))
  go_ret2
  exact ⟨_, F_, by first | exact Kd.R_nil _ _ _ _ _ | exact Kd.N_nil _ _ _ _ _ | exact Kd.V_nil _ _ _ _ _ | exact Kd.Q_nil _ _ _ _ _ | exact Kd.S_nil _ _ _ _ _, B1_ HB.out GE101.out⟩
 replace c4 := Bool.eq_false_iff.mpr c4
 subst c4
 have H1 : (some (([] : List Int), 1)) = some (r1, r2) := by rw [if_neg (show ¬ (false = true) by decide)] at H; exact H
 clear H
 have H := H1
 clear H1
 simp only [Option.some.injEq, Prod.mk.injEq] at H
 obtain ⟨rfl, rfl⟩ := H
 go_enter Try.func34, Try.ntmps34
 go_wp2_with (first | ((with_reducible refine qAn (N := 2) rfl ?_); refine bx_ 2 #[.int .i64 a0_0, .int .i64 a0_1, .int .i64 a0_2, .slice A0_3 l0_3.length c0_3] 55 ?_; intro gb101 hg w15 hbox hb; have BK101 := Zz.mk (hbox); have GW101 := Zz.mk ((gw_ hg (B_ HB.out))); have GE101 := GW101; replace HB := Zz.mk (bT_ (B_ HB.out) hb); clear hb hbox hg) | ((with_reducible refine gC_ (f := 82) rfl ?_); refine GL_ (some 6) rfl rfl Try.func82 #[.pointer (some ⟨gb101, 0, none⟩)] rfl (h := ?_); (with_reducible refine (z82.calls k gb101 a0_0 a0_1 a0_2 A0_3 c0_3 l0_3 false _ ?side1 ?side2 ?side3 A3.out).mono ?_); (case side1 => refine BW_ ?_; exact BK101.out); (case side2 => exact KC_ (Kd.C_below HR0_3.out HB.out)); (case side3 => exact HC0_3.out); rintro e w16 ⟨rfl, hb⟩; refine ⟨_, rfl, ?_⟩; replace BK101 := Zz.mk (kb_ BK101.out hb); replace HB := Zz.mk (bT_ (B1_ HB.out GE101.out) hb); (try clear hb)))
 go_ret2
 exact ⟨_, F_, by first | exact Kd.R_nil _ _ _ _ _ | exact Kd.N_nil _ _ _ _ _ | exact Kd.V_nil _ _ _ _ _ | exact Kd.Q_nil _ _ _ _ _ | exact Kd.S_nil _ _ _ _ _, B1_ HB.out GE101.out⟩
def z114.f (k : Nat) (s0_0 : List Int) (s0_1 : Int) (s0_2 : Int) : Option (Int × Int × Int × List Int × Int × Int) := (z132.f s0_0 s0_1 s0_2).bind fun bt102 => ((z71.f s0_0 bt102.2.1 bt102.2.2 5).bind fun bt105 => ((z71.f s0_0 bt105.2.1 bt105.2.2 5).bind fun bt108 => ((z133.f k s0_0 bt108.2.1 bt108.2.2 bt102.1 bt105.1 bt108.1).bind fun bt111 => (some (bt111.1, bt111.2.1, bt111.2.2.1, bt111.2.2.2.1, bt111.2.2.2.2.1, bt111.2.2.2.2.2)))))
theorem z114.calls (k : Nat) (g : Nat) (s0_0 : List Int) (s0_1 : Int) (s0_2 : Int) (r1 : Int) (r2 : Int) (r3 : Int) (r4 : List Int) (r5 : Int) (r6 : Int) (w0 w : World) (hI : qAa w0 w g s0_0 s0_1 s0_2) (hB : Below w0.heap.size w0 w) (h : z114.f k s0_0 s0_1 s0_2 = some (r1, r2, r3, r4, r5, r6)) :
  Calls Try.prog 114 #[.pointer (some ⟨g, 0, none⟩)] w fun e w' => ∃ v3_ : Value, e = .returned (.agg #[.int .i64 r1, .int .i64 r2, .int .i64 r3, v3_]) ∧ Kd.R (Kd.int .i64) 2 w' w.heap.size (fun _ => True) v3_ r4 ∧ qAa w0 w' g s0_0 r5 r6 ∧ Below w0.heap.size w0 w' ∧ qAc w w' g none := by
 have hu55 := Try.underlying55
 have HI0 := Zz.mk hI
 have HK := Zz.mk (qAc.refl w g none)
 have HL := Zz.mk hB.size
 clear hI
 have HW0 := Zz.mk hB.size
 have HB := Zz.mk hB
 clear hB
 have H : ((z132.f s0_0 s0_1 s0_2).bind fun bt102 => ((z71.f s0_0 bt102.2.1 bt102.2.2 5).bind fun bt105 => ((z71.f s0_0 bt105.2.1 bt105.2.2 5).bind fun bt108 => ((z133.f k s0_0 bt108.2.1 bt108.2.2 bt102.1 bt105.1 bt108.1).bind fun bt111 => (some (bt111.1, bt111.2.1, bt111.2.2.1, bt111.2.2.2.1, bt111.2.2.2.2.1, bt111.2.2.2.2.2)))))) = some (r1, r2, r3, r4, r5, r6) := h
 clear h
 replace H := OB_ H
 obtain ⟨⟨t102, t103, t104⟩, A20, H⟩ := H
 replace H : ((z71.f s0_0 t103 t104 5).bind fun bt105 => ((z71.f s0_0 bt105.2.1 bt105.2.2 5).bind fun bt108 => ((z133.f k s0_0 bt108.2.1 bt108.2.2 t102 bt105.1 bt108.1).bind fun bt111 => (some (bt111.1, bt111.2.1, bt111.2.2.1, bt111.2.2.2.1, bt111.2.2.2.2.1, bt111.2.2.2.2.2))))) = some (r1, r2, r3, r4, r5, r6) := H
 have A2 := Zz.mk A20
 clear A20
 replace H := OB_ H
 obtain ⟨⟨t105, t106, t107⟩, A30, H⟩ := H
 replace H : ((z71.f s0_0 t106 t107 5).bind fun bt108 => ((z133.f k s0_0 bt108.2.1 bt108.2.2 t102 t105 bt108.1).bind fun bt111 => (some (bt111.1, bt111.2.1, bt111.2.2.1, bt111.2.2.2.1, bt111.2.2.2.2.1, bt111.2.2.2.2.2)))) = some (r1, r2, r3, r4, r5, r6) := H
 have A3 := Zz.mk A30
 clear A30
 replace H := OB_ H
 obtain ⟨⟨t108, t109, t110⟩, A40, H⟩ := H
 replace H : ((z133.f k s0_0 t109 t110 t102 t105 t108).bind fun bt111 => (some (bt111.1, bt111.2.1, bt111.2.2.1, bt111.2.2.2.1, bt111.2.2.2.2.1, bt111.2.2.2.2.2))) = some (r1, r2, r3, r4, r5, r6) := H
 have A4 := Zz.mk A40
 clear A40
 replace H := OB_ H
 obtain ⟨⟨t111, t112, t113, t114, t117, t118⟩, A50, H⟩ := H
 replace H : (some (t111, t112, t113, t114, t117, t118)) = some (r1, r2, r3, r4, r5, r6) := H
 have A5 := Zz.mk A50
 clear A50
 simp only [Option.some.injEq, Prod.mk.injEq] at H
 obtain ⟨rfl, rfl, rfl, rfl, rfl, rfl⟩ := H
 go_enter Try.func114, Try.ntmps114
 go_wp2_with (first | ((with_reducible refine qAn (N := 2) rfl ?_); refine bx_ 2 #[.int .i64 0, .int .i64 0, .int .i64 0, .slice none 0 0] 55 ?_; intro gb101 hg w6 hbox hb; have BK101 := Zz.mk (hbox); have GW101 := Zz.mk ((by rw [hg]; exact (qAy (w := w) (g := g) (row := none) (by repeat (first | (with_reducible first | exact HK.out | apply qAc.set_ | apply qAf | apply qAj | apply qAg) | exact HK.out))) : w.heap.size ≤ gb101)); have GE101 := Zz.mk ((Nat.le_trans HW0.out (by rw [hg]; exact (qAy (w := w) (g := g) (row := none) (by repeat (first | (with_reducible first | exact HK.out | apply qAc.set_ | apply qAf | apply qAj | apply qAg) | exact HK.out))) : w.heap.size ≤ gb101) : w0.heap.size ≤ gb101)); have NB0_101 := Zz.mk ((by rw [hg]; exact Nat.ne_of_lt (qAa.lt (show qAa w0 _ g s0_0 s0_1 s0_2 from by repeat (first | (with_reducible first | exact HI0.out | apply qAa.alloc | apply qAa.drewN | apply qAa.drew | apply qAa.set_1 | apply qAa.set_2) | exact HI0.out))) : g ≠ gb101)); have NB101_0 := Zz.mk ((by rw [hg]; exact Nat.ne_of_gt (qAa.lt (show qAa w0 _ g s0_0 s0_1 s0_2 from by repeat (first | (with_reducible first | exact HI0.out | apply qAa.alloc | apply qAa.drewN | apply qAa.drew | apply qAa.set_1 | apply qAa.set_2) | exact HI0.out))) : gb101 ≠ g)); replace HK := Zz.mk (qAc.trans (by repeat (first | (with_reducible first | exact HK.out | apply qAc.set_ | apply qAf | apply qAj | apply qAg) | exact HK.out)) (qAc.of_below hb g none) (.inl rfl)); replace HB := Zz.mk (bT_ (by repeat (first | (with_reducible first | exact HB.out | apply qAi | apply qAd | apply qAe | refine qAb ?_ (qAa.ge HI0.out)) | exact HB.out)) hb); replace HI0 := Zz.mk (qAa.below (by repeat (first | (with_reducible first | exact HI0.out | apply qAa.alloc | apply qAa.drewN | apply qAa.drew | apply qAa.set_1 | apply qAa.set_2) | exact HI0.out)) hb); clear hb hbox hg) | ((with_reducible refine gC_ (f := 132) rfl ?_); refine GL_ (some 6) rfl rfl Try.func132 #[.pointer (some ⟨g, 0, none⟩)] rfl (h := ?_); (with_reducible refine (z132.calls g s0_0 s0_1 s0_2 t102 t103 t104 w0 _ ?side1 ?side2 A2.out).mono ?_); (case side1 => repeat (first | (with_reducible first | exact HI0.out | apply qAa.alloc | apply qAa.drewN | apply qAa.drew | apply qAa.set_1 | apply qAa.set_2 | refine qAa.far ?_ NB0_101.out _) | exact HI0.out)); (case side2 => repeat (first | (with_reducible first | exact HB.out | apply qAi | apply qAd | apply qAe | refine qAb ?_ (qAa.ge HI0.out) | refine qAb ?_ GE101.out) | exact HB.out)); rintro e w7 ⟨rfl, hi, hb, hk⟩; refine ⟨_, rfl, ?_⟩; replace BK101 := Zz.mk (qAc.blk hk (g' := gb101) (o := .cells #[.int .i64 0, .int .i64 0, .int .i64 0, .slice none 0 0] 55 (0, 0)) (KB_ BK101.out) NB101_0.out (by simp)); replace HK := Zz.mk (qAc.trans (by repeat (first | (with_reducible first | exact HK.out | apply qAc.set_ | apply qAf | apply qAj | apply qAg | refine qAk ?_ GW101.out _) | exact HK.out)) hk (.inl rfl)); replace HB := Zz.mk (hb); replace HI0 := Zz.mk (hi); (try clear hb); (try clear hk); (try clear hi)) | ((with_reducible refine gC_ (f := 71) rfl ?_); refine GL_ (some 8) rfl rfl Try.func71 #[.pointer (some ⟨g, 0, none⟩), .int .i64 5] rfl (h := ?_); (with_reducible refine (z71.calls g s0_0 t103 t104 5 t105 t106 t107 w0 _ ?side1 ?side2 A3.out).mono ?_); (case side1 => repeat (first | (with_reducible first | exact HI0.out | apply qAa.alloc | apply qAa.drewN | apply qAa.drew | apply qAa.set_1 | apply qAa.set_2 | refine qAa.far ?_ NB0_101.out _) | exact HI0.out)); (case side2 => repeat (first | (with_reducible first | exact HB.out | apply qAi | apply qAd | apply qAe | refine qAb ?_ (qAa.ge HI0.out) | refine qAb ?_ GE101.out) | exact HB.out)); rintro e w8 ⟨rfl, hi, hb, hk⟩; refine ⟨_, rfl, ?_⟩; replace BK101 := Zz.mk (qAc.blk hk (g' := gb101) (o := .cells #[.int .i64 0, .int .i64 0, .int .i64 0, .slice none 0 0] 55 (0, 0)) (KB_ BK101.out) NB101_0.out (by simp)); replace HK := Zz.mk (qAc.trans (by repeat (first | (with_reducible first | exact HK.out | apply qAc.set_ | apply qAf | apply qAj | apply qAg | refine qAk ?_ GW101.out _) | exact HK.out)) hk (.inl rfl)); replace HB := Zz.mk (hb); replace HI0 := Zz.mk (hi); (try clear hb); (try clear hk); (try clear hi)) | ((with_reducible refine gC_ (f := 71) rfl ?_); refine GL_ (some 13) rfl rfl Try.func71 #[.pointer (some ⟨g, 0, none⟩), .int .i64 5] rfl (h := ?_); (with_reducible refine (z71.calls g s0_0 t106 t107 5 t108 t109 t110 w0 _ ?side1 ?side2 A4.out).mono ?_); (case side1 => repeat (first | (with_reducible first | exact HI0.out | apply qAa.alloc | apply qAa.drewN | apply qAa.drew | apply qAa.set_1 | apply qAa.set_2 | refine qAa.far ?_ NB0_101.out _) | exact HI0.out)); (case side2 => repeat (first | (with_reducible first | exact HB.out | apply qAi | apply qAd | apply qAe | refine qAb ?_ (qAa.ge HI0.out) | refine qAb ?_ GE101.out) | exact HB.out)); rintro e w9 ⟨rfl, hi, hb, hk⟩; refine ⟨_, rfl, ?_⟩; replace BK101 := Zz.mk (qAc.blk hk (g' := gb101) (o := .cells #[.int .i64 0, .int .i64 0, .int .i64 0, .slice none 0 0] 55 (0, 0)) (KB_ BK101.out) NB101_0.out (by simp)); replace HK := Zz.mk (qAc.trans (by repeat (first | (with_reducible first | exact HK.out | apply qAc.set_ | apply qAf | apply qAj | apply qAg | refine qAk ?_ GW101.out _) | exact HK.out)) hk (.inl rfl)); replace HB := Zz.mk (hb); replace HI0 := Zz.mk (hi); (try clear hb); (try clear hk); (try clear hi)) | ((with_reducible refine gC_ (f := 133) rfl ?_); refine GL_ (some 14) rfl rfl Try.func133 #[.pointer (some ⟨g, 0, none⟩), .int .i64 t102, .int .i64 t105, .int .i64 t108] rfl (h := ?_); (with_reducible refine (z133.calls k g s0_0 t109 t110 t102 t105 t108 t111 t112 t113 t114 t117 t118 w0 _ ?side1 ?side2 A5.out).mono ?_); (case side1 => repeat (first | (with_reducible first | exact HI0.out | apply qAa.alloc | apply qAa.drewN | apply qAa.drew | apply qAa.set_1 | apply qAa.set_2 | refine qAa.far ?_ NB0_101.out _) | exact HI0.out)); (case side2 => repeat (first | (with_reducible first | exact HB.out | apply qAi | apply qAd | apply qAe | refine qAb ?_ (qAa.ge HI0.out) | refine qAb ?_ GE101.out) | exact HB.out)); rintro e w10 ⟨v115, rfl, ho0, hi, hb, hk⟩; refine ⟨_, rfl, ?_⟩; replace BK101 := Zz.mk (qAc.blk hk (g' := gb101) (o := .cells #[.int .i64 0, .int .i64 0, .int .i64 0, .slice none 0 0] 55 (0, 0)) (KB_ BK101.out) NB101_0.out (by simp)); have HO116 := Zz.mk (Kd.R_lower ho0 (qAy (w := w) (g := g) (row := none) (by repeat (first | (with_reducible first | exact HK.out | apply qAc.set_ | apply qAf | apply qAj | apply qAg | refine qAk ?_ GW101.out _) | exact HK.out)))); replace HK := Zz.mk (qAc.trans (by repeat (first | (with_reducible first | exact HK.out | apply qAc.set_ | apply qAf | apply qAj | apply qAg | refine qAk ?_ GW101.out _) | exact HK.out)) hk (.inl rfl)); replace HB := Zz.mk (hb); replace HI0 := Zz.mk (hi); (try clear hb); (try clear hk); (try clear hi); have hnb11 := NB101_0.out; have hnc11 := NB0_101.out; obtain ⟨hcz12_0, hcz12_1, hcz12_2, hcz12_3, hfz12_0, hfz12_1, hfz12_2, hfz12_3⟩ := Z4f_ BK101.out; obtain ⟨Ao13, co13, eo13⟩ := Kd.R_slice HO116.out; subst eo13))
 refine bodyPost_ret (results_cell_row rfl _ _ gb101 55 #[.int .i64 t111, .int .i64 t112, .int .i64 t113, .slice Ao13 t114.length co13] (0, 0) _ rfl (by refine BW_ ?_; refine bP_ (cs := #[.int .i64 t111, .int .i64 t112, .int .i64 t113, .slice none 0 0]) ?_ 3 _ rfl; refine BW_ ?_; refine bP_ (cs := #[.int .i64 t111, .int .i64 t112, .int .i64 0, .slice none 0 0]) ?_ 2 _ rfl; refine BW_ ?_; refine bP_ (cs := #[.int .i64 t111, .int .i64 0, .int .i64 0, .slice none 0 0]) ?_ 1 _ rfl; refine BW_ ?_; refine bP_ (cs := #[.int .i64 0, .int .i64 0, .int .i64 0, .slice none 0 0]) ?_ 0 _ rfl; refine BW_ ?_; exact BK101.out) Try.underlying55 rfl (by kernel_rfl)) rfl ?_
 exact ⟨_, F_, by refine RW_ ?_; exact Kd.R_mono (Kd.R_far (p := ⟨gb101, 3, none⟩) (Kd.R_far (p := ⟨gb101, 2, none⟩) (Kd.R_far (p := ⟨gb101, 1, none⟩) (Kd.R_far (p := ⟨gb101, 0, none⟩) (Kd.R_types HO116.out BK101.out (by decide)) (fun _ hk => hk.2) (.int .i64 t111)) (fun _ hk => hk.2) (.int .i64 t112)) (fun _ hk => hk.2) (.int .i64 t113)) (fun _ hk => hk.2) (.slice Ao13 t114.length co13)) (fun _ hk => trivial), by repeat (first | (with_reducible first | exact HI0.out | apply qAa.alloc | apply qAa.drewN | apply qAa.drew | apply qAa.set_1 | apply qAa.set_2 | refine qAa.far ?_ NB0_101.out _) | exact HI0.out), by repeat (first | (with_reducible first | exact HB.out | apply qAi | apply qAd | apply qAe | refine qAb ?_ (qAa.ge HI0.out) | refine qAb ?_ GE101.out) | exact HB.out), by repeat (first | (with_reducible first | exact HK.out | apply qAc.set_ | apply qAf | apply qAj | apply qAg | refine qAk ?_ GW101.out _) | exact HK.out)⟩
def z33.f (k : Nat) (a0_0 : Int) (a0_1 : Int) (a0_2 : Int) (l0_3 : List Int) : Option (Int × Int) := (z82.f k a0_0 a0_1 a0_2 l0_3).bind fun t102 => (if t102 = true then ((z83.f k a0_0 a0_1 a0_2 l0_3).bind fun t103 => (some (t103, 0))) else (some (0, 1)))
theorem z33.calls (k : Nat) (a0_0 : Int) (a0_1 : Int) (a0_2 : Int) (A0_3 : Option Addr) (c0_3 : Nat) (l0_3 : List Int) (r1 : Int) (r2 : Int) (w : World) (hr0_3 : Kd.C (Kd.int .i64) w A0_3 l0_3.length l0_3) (hc0_3 : l0_3.length ≤ c0_3) (h : z33.f k a0_0 a0_1 a0_2 l0_3 = some (r1, r2)) :
  Calls Try.prog 33 #[.agg #[.int .i64 a0_0, .int .i64 a0_1, .int .i64 a0_2, .slice A0_3 l0_3.length c0_3]] w fun e w' => e = .returned (.tuple #[.int .i64 r1, .int .i64 r2]) ∧ Below w.heap.size w w' := by
 have hu55 := Try.underlying55
 have HR0_3 := Zz.mk hr0_3
 have HC0_3 := Zz.mk hc0_3
 clear hr0_3 hc0_3
 have HB := Zz.mk (Below.refl w.heap.size w)
 have H : ((z82.f k a0_0 a0_1 a0_2 l0_3).bind fun t102 => (if t102 = true then ((z83.f k a0_0 a0_1 a0_2 l0_3).bind fun t103 => (some (t103, 0))) else (some (0, 1)))) = some (r1, r2) := h
 clear h
 replace H := OB_ H
 obtain ⟨t102, A20, H⟩ := H
 replace H : (if t102 = true then ((z83.f k a0_0 a0_1 a0_2 l0_3).bind fun t103 => (some (t103, 0))) else (some (0, 1))) = some (r1, r2) := H
 have A2 := Zz.mk A20
 clear A20
 by_cases c3 : t102 = true
 ·subst c3
  have H1 : ((z83.f k a0_0 a0_1 a0_2 l0_3).bind fun t103 => (some (t103, 0))) = some (r1, r2) := by rw [if_pos rfl] at H; exact H
  clear H
  have H := H1
  clear H1
  replace H := OB_ H
  obtain ⟨t103, A40, H⟩ := H
  replace H : (some (t103, 0)) = some (r1, r2) := H
  have A4 := Zz.mk A40
  clear A40
  simp only [Option.some.injEq, Prod.mk.injEq] at H
  obtain ⟨rfl, rfl⟩ := H
  go_enter Try.func33, Try.ntmps33
  go_wp2_with (first | ((with_reducible refine qAn (N := 1) rfl ?_); refine bx_ 1 #[.int .i64 a0_0, .int .i64 a0_1, .int .i64 a0_2, .slice A0_3 l0_3.length c0_3] 55 ?_; intro gb101 hg w5 hbox hb; have BK101 := Zz.mk (hbox); have GW101 := Zz.mk ((gw_ hg (B_ HB.out))); have GE101 := GW101; replace HB := Zz.mk (bT_ (B_ HB.out) hb); clear hb hbox hg) | ((with_reducible refine gC_ (f := 82) rfl ?_); refine GL_ (some 4) rfl rfl Try.func82 #[.pointer (some ⟨gb101, 0, none⟩)] rfl (h := ?_); (with_reducible refine (z82.calls k gb101 a0_0 a0_1 a0_2 A0_3 c0_3 l0_3 true _ ?side1 ?side2 ?side3 A2.out).mono ?_); (case side1 => refine BW_ ?_; exact BK101.out); (case side2 => exact KC_ (Kd.C_below HR0_3.out HB.out)); (case side3 => exact HC0_3.out); rintro e w6 ⟨rfl, hb⟩; refine ⟨_, rfl, ?_⟩; replace BK101 := Zz.mk (kb_ BK101.out hb); replace HB := Zz.mk (bT_ (B1_ HB.out GE101.out) hb); (try clear hb)) | ((with_reducible refine gC_ (f := 83) rfl ?_); refine GL_ (some 6) rfl rfl Try.func83 #[.pointer (some ⟨gb101, 0, none⟩)] rfl (h := ?_); (with_reducible refine (z83.calls k gb101 a0_0 a0_1 a0_2 A0_3 c0_3 l0_3 t103 _ ?side1 ?side2 ?side3 A4.out).mono ?_); (case side1 => refine BW_ ?_; exact BK101.out); (case side2 => exact KC_ (Kd.C_below HR0_3.out HB.out)); (case side3 => exact HC0_3.out); rintro e w7 ⟨rfl, hb⟩; refine ⟨_, rfl, ?_⟩; replace BK101 := Zz.mk (kb_ BK101.out hb); replace HB := Zz.mk (bT_ (B1_ HB.out GE101.out) hb); (try clear hb)))
  go_ret2
  exact ⟨F_, B1_ HB.out GE101.out⟩
 replace c3 := Bool.eq_false_iff.mpr c3
 subst c3
 have H1 : (some (0, 1)) = some (r1, r2) := by rw [if_neg (show ¬ (false = true) by decide)] at H; exact H
 clear H
 have H := H1
 clear H1
 simp only [Option.some.injEq, Prod.mk.injEq] at H
 obtain ⟨rfl, rfl⟩ := H
 go_enter Try.func33, Try.ntmps33
 go_wp2_with (first | ((with_reducible refine qAn (N := 1) rfl ?_); refine bx_ 1 #[.int .i64 a0_0, .int .i64 a0_1, .int .i64 a0_2, .slice A0_3 l0_3.length c0_3] 55 ?_; intro gb101 hg w8 hbox hb; have BK101 := Zz.mk (hbox); have GW101 := Zz.mk ((gw_ hg (B_ HB.out))); have GE101 := GW101; replace HB := Zz.mk (bT_ (B_ HB.out) hb); clear hb hbox hg) | ((with_reducible refine gC_ (f := 82) rfl ?_); refine GL_ (some 4) rfl rfl Try.func82 #[.pointer (some ⟨gb101, 0, none⟩)] rfl (h := ?_); (with_reducible refine (z82.calls k gb101 a0_0 a0_1 a0_2 A0_3 c0_3 l0_3 false _ ?side1 ?side2 ?side3 A2.out).mono ?_); (case side1 => refine BW_ ?_; exact BK101.out); (case side2 => exact KC_ (Kd.C_below HR0_3.out HB.out)); (case side3 => exact HC0_3.out); rintro e w9 ⟨rfl, hb⟩; refine ⟨_, rfl, ?_⟩; replace BK101 := Zz.mk (kb_ BK101.out hb); replace HB := Zz.mk (bT_ (B1_ HB.out GE101.out) hb); (try clear hb)))
 go_ret2
 exact ⟨F_, B1_ HB.out GE101.out⟩
end Go.Proofs.Ytkgajpngeglkmaa.B
