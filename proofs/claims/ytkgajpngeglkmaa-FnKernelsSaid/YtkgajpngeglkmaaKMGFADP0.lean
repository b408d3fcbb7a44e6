/- Printed proofs of functions of the program and of the reference, by a program of this work over the kit's printer. -/
import Derived.Test.YtkgajpngeglkmaaKKJBPOK0
import Derived.Test.YtkgajpngeglkmaaKLBBOAD0
import Derived.Test.YtkgajpngeglkmaaKLGGKON0
import Derived.Test.YtkgajpngeglkmaaKLPPPPL0
import Derived.Test.YtkgajpngeglkmaaKW0
namespace Go.Proofs.Ytkgajpngeglkmaa.B
open Go.RowKit Go.Proofs.YtkgajpngeglkmaaW.PrintWords Go.Proofs.YtkgajpngeglkmaaW.PrintLast Go.Proofs.YtkgajpngeglkmaaW.PrintMore
attribute [local go_sem] qAr qAp qAv qAu qAm qAl qAq qAo
set_option linter.unusedVariables false
set_option linter.unusedSimpArgs false
def z32.f (k : Nat) (a0_0 : Int) (a0_1 : Int) (a0_2 : Int) (l0_3 : List Int) : Option (Int × Int × (List (List Int)) × Int) := (z79.f k a0_0 a0_1 a0_2 l0_3).bind fun t103 => (if t103 = true then ((z81.f k a0_0 a0_1 a0_2 l0_3).bind fun t104 => ((z76.f k a0_0 a0_1 t104).bind fun bt107 => (some (bt107.1, bt107.2.1, bt107.2.2, 0)))) else (some (0, 0, ([] : List (List Int)), 1)))
def z32.T3 : Bool × List (List Nat × List Nat) := (true, [([], []), ([0], [0]), ([], []), ([2], [2]), ([], []), ([4], [4]), ([1, 3, 5, 5], [1, 3, 5]), ([6, 6, 0, 1, 2, 3, 4, 5, 6], [6]), ([7, 0, 1, 2, 3, 4, 5, 6, 7], [])])
def z32.B3 : List Nat := [0, 1, 0, 4, 0, 16, 63, 127, 255]
theorem z32.tab3 : rtab .any (qCc Try.f32 3) = z32.T3 := by kernel_rfl
theorem z32.bits3 : qBa z32.T3.2 z32.B3 = true := by kernel_rfl
set_option maxHeartbeats 8000000 in
set_option maxRecDepth 100000 in
theorem z32.calls (k : Nat) (a0_0 : Int) (a0_1 : Int) (a0_2 : Int) (A0_3 : Option Addr) (c0_3 : Nat) (l0_3 : List Int) (r1 : Int) (r2 : Int) (r3 : List (List Int)) (r4 : Int) (w : World) (hr0_3 : Kd.C (Kd.int .i64) w A0_3 l0_3.length l0_3) (hc0_3 : l0_3.length ≤ c0_3) (h : z32.f k a0_0 a0_1 a0_2 l0_3 = some (r1, r2, r3, r4)) :
  Calls Try.prog 32 #[.agg #[.int .i64 a0_0, .int .i64 a0_1, .int .i64 a0_2, .slice A0_3 l0_3.length c0_3]] w fun e w' => ∃ v2_ : Value, e = .returned (.tuple #[.agg #[.int .i64 r1, .int .i64 r2, v2_], .int .i64 r4]) ∧ Kd.S (Kd.slice 2 (Kd.int .i64)) 40 w' w.heap.size (fun _ => True) v2_ r3 ∧ Below w.heap.size w w' := by
 have hu55 := Try.underlying55
 have hu28 := Try.underlying28
 have HR0_3 := Zz.mk hr0_3
 have HC0_3 := Zz.mk hc0_3
 clear hr0_3 hc0_3
 have HB := Zz.mk (Below.refl w.heap.size w)
 have H : ((z79.f k a0_0 a0_1 a0_2 l0_3).bind fun t103 => (if t103 = true then ((z81.f k a0_0 a0_1 a0_2 l0_3).bind fun t104 => ((z76.f k a0_0 a0_1 t104).bind fun bt107 => (some (bt107.1, bt107.2.1, bt107.2.2, 0)))) else (some (0, 0, ([] : List (List Int)), 1)))) = some (r1, r2, r3, r4) := h
 clear h
 replace H := OB_ H
 obtain ⟨t103, A20, H⟩ := H
 replace H : (if t103 = true then ((z81.f k a0_0 a0_1 a0_2 l0_3).bind fun t104 => ((z76.f k a0_0 a0_1 t104).bind fun bt107 => (some (bt107.1, bt107.2.1, bt107.2.2, 0)))) else (some (0, 0, ([] : List (List Int)), 1))) = some (r1, r2, r3, r4) := H
 have A2 := Zz.mk A20
 clear A20
 by_cases c3 : t103 = true
 ·subst c3
  have H1 : ((z81.f k a0_0 a0_1 a0_2 l0_3).bind fun t104 => ((z76.f k a0_0 a0_1 t104).bind fun bt107 => (some (bt107.1, bt107.2.1, bt107.2.2, 0)))) = some (r1, r2, r3, r4) := by rw [if_pos rfl] at H; exact H
  clear H
  have H := H1
  clear H1
  replace H := OB_ H
  obtain ⟨t104, A40, H⟩ := H
  replace H : ((z76.f k a0_0 a0_1 t104).bind fun bt107 => (some (bt107.1, bt107.2.1, bt107.2.2, 0))) = some (r1, r2, r3, r4) := H
  have A4 := Zz.mk A40
  clear A40
  replace H := OB_ H
  obtain ⟨⟨t107, t108, t109⟩, A50, H⟩ := H
  replace H : (some (t107, t108, t109, 0)) = some (r1, r2, r3, r4) := H
  have A5 := Zz.mk A50
  clear A50
  simp only [Option.some.injEq, Prod.mk.injEq] at H
  obtain ⟨rfl, rfl, rfl, rfl⟩ := H
  go_enter Try.func32, Try.ntmps32
  try go_wp2_with (first | ((with_reducible refine qAn (N := 1) rfl ?_); refine bx_ 1 #[.int .i64 a0_0, .int .i64 a0_1, .int .i64 a0_2, .slice A0_3 l0_3.length c0_3] 55 ?_; intro gb101 hg w6 hbox hb; have BK101 := Zz.mk (hbox); have GW101 := Zz.mk ((gw_ hg (B_ HB.out))); have GE101 := GW101; replace HB := Zz.mk (bT_ (B_ HB.out) hb); clear hb hbox hg) | ((with_reducible refine qAn (N := 2) rfl ?_); refine bx_ 2 #[.int .i64 0, .int .i64 0, .slice none 0 0] 28 ?_; intro gb102 hg w7 hbox hb; have BK102 := Zz.mk (hbox); have GW102 := Zz.mk ((gw_ hg (B1_ HB.out GE101.out))); have GE102 := GW102; have NB101_102 := Zz.mk ((nb_ BK101.out hg)); have NB102_101 := Zz.mk NB101_102.out.symm; replace BK101 := Zz.mk (kb_ BK101.out hb); replace HB := Zz.mk (bT_ (B1_ HB.out GE101.out) hb); clear hb hbox hg; have hnb8 := NB101_102.out; have hnc8 := NB102_101.out; obtain ⟨hcz9_0, hcz9_1, hcz9_2, hcz9_3, hfz9_0, hfz9_1, hfz9_2, hfz9_3⟩ := Z4f_ BK101.out) | ((with_reducible refine gC_ (f := 79) rfl ?_); refine GL_ (some 5) rfl rfl Try.func79 #[.agg #[.int .i64 a0_0, .int .i64 a0_1, .int .i64 a0_2, .slice A0_3 l0_3.length c0_3]] rfl (h := ?_); (with_reducible refine (z79.calls k a0_0 a0_1 a0_2 _ _ l0_3 true _ ?side1 ?side2 A2.out).mono ?_); (case side1 => exact KC_ (Kd.C_below HR0_3.out HB.out)); (case side2 => exact HC0_3.out); rintro e w10 ⟨rfl, hb⟩; refine ⟨_, rfl, ?_⟩; replace BK101 := Zz.mk (kb_ BK101.out hb); replace BK102 := Zz.mk (kb_ BK102.out hb); replace HB := Zz.mk (bT_ (B2_ HB.out GE101.out GE102.out) hb); (try clear hb)))
  replace BK101 := Zz.mk (bD_ BK101.out)
  replace BK102 := Zz.mk (bD_ BK102.out)
  replace HB := Zz.mk (qAe HB.out)
  refine qBd (n := 9) (S := fun w' => w'.cell? ⟨gb101, 0, none⟩ = some (.int .i64 a0_0) ∧ w'.cell? ⟨gb101, 1, none⟩ = some (.int .i64 a0_1) ∧ w'.cell? ⟨gb101, 2, none⟩ = some (.int .i64 a0_2) ∧ w'.cell? ⟨gb101, 3, none⟩ = some (.slice A0_3 l0_3.length c0_3)) (ds := []) (tb_ 9 0) (by kernel_rfl) rfl rfl (Z4_ BK101.out) (fun hHeld => ?_); refine qA1 z32.tab3 z32.bits3 (fun HT_ HW_ => ?_)
  generalize w10.drew = w11 at BK101 BK102 HB hHeld ⊢
  refine PX_ 0 8 (tb_ 9 1) HT_ rfl rfl ?_
  refine PX_ 2 10 (tb_ 9 5) HT_ rfl rfl ?_
  refine TV_ (i := 1) (N := some 9) (tb_ 9 7) HT_ HW_ rfl rfl hHeld (by rintro w' ⟨s0, s1, s2, s3⟩; go_simp; with_reducible rfl) (h := ?_)
  refine TV_ (i := 3) (N := some 11) (tb_ 9 15) HT_ HW_ rfl rfl hHeld (by rintro w' ⟨s0, s1, s2, s3⟩; go_simp; with_reducible rfl) (h := ?_)
  refine TV_ (i := 4) (N := some 12) (tb_ 9 31) HT_ HW_ rfl rfl hHeld (by rintro w' ⟨s0, s1, s2, s3⟩; go_simp; with_reducible rfl) (h := ?_)
  refine one_ (i := 5) (N := some 13) (tb_ 9 63) rfl rfl (qA0 HT_.out (by kernel_rfl)) (by decide) (fun K hK => ?_)
  refine GO_ Try.func81 #[.agg #[.int .i64 a0_0, .int .i64 a0_1, .int .i64 a0_2, .slice A0_3 l0_3.length c0_3]] (h := ?_)
  with_reducible refine (z81.calls k a0_0 a0_1 a0_2 _ _ l0_3 t104 _ ?side1 ?side2 A4.out).mono ?_
  (case side1 => exact KC_ (Kd.C_below HR0_3.out HB.out))
  (case side2 => exact HC0_3.out)
  rintro e w12 ⟨v105, rfl, ho0, hb⟩
  refine ⟨_, rfl, ?_⟩
  have HO106 := Zz.mk (Kd.S_lower ho0 (bS_ (B2_ HB.out GE101.out GE102.out)))
  replace BK101 := Zz.mk (kb_ BK101.out hb)
  replace BK102 := Zz.mk (kb_ BK102.out hb)
  replace HB := Zz.mk (bT_ (B2_ HB.out GE101.out GE102.out) hb)
  (try clear hb);(try clear ho0)
  obtain ⟨Ao13, co13, eo13⟩ := Kd.S_slice HO106.out
  (first | subst eo13 | obtain ⟨rfl, rfl⟩ := sl_ eo13)
  refine hK.out _ _ (Z4_ BK101.out) (fun hHeld => ?_)
  clear hK K
  refine NM_ (N := (some 13)) (h := ?_)
  refine one_ (i := 6) (N := some 14) (tb_ 9 127) rfl rfl (qA0 HT_.out (by kernel_rfl)) (by decide) (fun K hK => ?_)
  refine GO_ Try.func76 #[.int .i64 a0_0, .int .i64 a0_1, .slice Ao13 t104.length co13] (h := ?_)
  with_reducible refine (z76.calls k a0_0 a0_1 _ _ t104 t107 t108 t109 _ ?side1 ?side2 A5.out).mono ?_
  (case side1 => exact KC_ (Kd.S_reads' HO106.out).2.2)
  (case side2 => exact (Kd.S_reads' HO106.out).2.1)
  rintro e w14 ⟨v110, rfl, ho0, hb⟩
  refine ⟨_, rfl, ?_⟩
  have HO111 := Zz.mk (Kd.S_lower (Kd.S_new' ho0 (Kd.S_lt (KS_ HO106.out))) (bS_ (B2_ HB.out GE101.out GE102.out)))
  replace HO106 := Zz.mk (Kd.S_elder' (KS_ HO106.out) (Kd.S_base ho0) hb)
  replace BK101 := Zz.mk (kb_ BK101.out hb)
  replace BK102 := Zz.mk (kb_ BK102.out hb)
  replace HB := Zz.mk (bT_ (B2_ HB.out GE101.out GE102.out) hb)
  (try clear hb);(try clear ho0)
  obtain ⟨Ao17, co17, eo17⟩ := Kd.S_slice HO111.out
  (first | subst eo17 | obtain ⟨rfl, rfl⟩ := sl_ eo17)
  refine hK.out _ _ (Z4_ BK101.out) (fun hHeld => ?_)
  clear hK K
  refine NM_ (N := (some 14)) (h := ?_)
  refine one_ (i := 7) (N := none) (tb_ 9 255) rfl rfl (qA0 HT_.out (by kernel_rfl)) (by decide) (fun K hK => ?_)
  have hs15 : w14.cell? ⟨gb102, 0, none⟩ = some (.int .i64 0) := (bC_ BK102.out 0).trans rfl
  have hfs15 := bF_ BK102.out 0
  have hns15_0 := NB101_102.out
  have hms15_0 := NB102_101.out
  have hs16 : w14.cell? ⟨gb102, 1, none⟩ = some (.int .i64 0) := (bC_ BK102.out 1).trans rfl
  have hfs16 := bF_ BK102.out 1
  have hns16_0 := NB101_102.out
  have hms16_0 := NB102_101.out
  have hs18 : w14.cell? ⟨gb102, 2, none⟩ = some (.slice none 0 0) := (bC_ BK102.out 2).trans rfl
  have hfs18 := bF_ BK102.out 2
  have hns18_0 := NB101_102.out
  have hms18_0 := NB102_101.out
  refine qC8 (w1 := ?_) (by rfl) rfl ?_ ?_
  rotate_left
  ·go_simp
   rfl
  refine hK.out _ _ ⟨((qA6 (p := ⟨gb102, _, none⟩) NB101_102.out _).trans (((qA6 (p := ⟨gb102, _, none⟩) NB101_102.out _).trans (((qA6 (p := ⟨gb102, _, none⟩) NB101_102.out _).trans (hHeld.1)))))), ((qA6 (p := ⟨gb102, _, none⟩) NB101_102.out _).trans (((qA6 (p := ⟨gb102, _, none⟩) NB101_102.out _).trans (((qA6 (p := ⟨gb102, _, none⟩) NB101_102.out _).trans (hHeld.2.1)))))), ((qA6 (p := ⟨gb102, _, none⟩) NB101_102.out _).trans (((qA6 (p := ⟨gb102, _, none⟩) NB101_102.out _).trans (((qA6 (p := ⟨gb102, _, none⟩) NB101_102.out _).trans (hHeld.2.2.1)))))), ((qA6 (p := ⟨gb102, _, none⟩) NB101_102.out _).trans (((qA6 (p := ⟨gb102, _, none⟩) NB101_102.out _).trans (((qA6 (p := ⟨gb102, _, none⟩) NB101_102.out _).trans (hHeld.2.2.2))))))⟩ (fun hHeld => ?_)
  clear hK K
  refine PX_ 8 3 (tb_ 9 511) HT_ rfl rfl ?_
  refine qBq (qA5 HT_.out (by kernel_rfl)) ?_
  try go_wp2
  refine bodyPost_ret (qFj rfl _ _ gb102 28 #[.int .i64 t107, .int .i64 t108, .slice Ao17 t109.length co17] (0, 0) _ rfl (by refine BW_ ?_; refine bP_ (cs := #[.int .i64 t107, .int .i64 t108, .slice none 0 0]) ?_ 2 _ rfl; refine BW_ ?_; refine bP_ (cs := #[.int .i64 t107, .int .i64 0, .slice none 0 0]) ?_ 1 _ rfl; refine BW_ ?_; refine bP_ (cs := #[.int .i64 0, .int .i64 0, .slice none 0 0]) ?_ 0 _ rfl; refine BW_ ?_; exact BK102.out) Try.underlying28 rfl (by kernel_rfl)) rfl ?_
  exact ⟨_, F_, by refine SW_ ?_; exact Kd.S_mono (Kd.S_far (p := ⟨gb102, 2, none⟩) (Kd.S_far (p := ⟨gb102, 1, none⟩) (Kd.S_far (p := ⟨gb102, 0, none⟩) (Kd.S_types HO111.out BK102.out (by decide)) (fun _ hk => hk.2) (.int .i64 t107)) (fun _ hk => hk.2) (.int .i64 t108)) (fun _ hk => hk.2) (.slice Ao17 t109.length co17)) (fun _ hk => trivial), B2_ HB.out GE101.out GE102.out⟩
 replace c3 := Bool.eq_false_iff.mpr c3
 subst c3
 have H1 : (some (0, 0, ([] : List (List Int)), 1)) = some (r1, r2, r3, r4) := by rw [if_neg (show ¬ (false = true) by decide)] at H; exact H
 clear H
 have H := H1
 clear H1
 simp only [Option.some.injEq, Prod.mk.injEq] at H
 obtain ⟨rfl, rfl, rfl, rfl⟩ := H
 go_enter Try.func32, Try.ntmps32
 go_wp2_with (first | ((with_reducible refine qAn (N := 1) rfl ?_); refine bx_ 1 #[.int .i64 a0_0, .int .i64 a0_1, .int .i64 a0_2, .slice A0_3 l0_3.length c0_3] 55 ?_; intro gb101 hg w19 hbox hb; have BK101 := Zz.mk (hbox); have GW101 := Zz.mk ((gw_ hg (B_ HB.out))); have GE101 := GW101; replace HB := Zz.mk (bT_ (B_ HB.out) hb); clear hb hbox hg) | ((with_reducible refine qAn (N := 2) rfl ?_); refine bx_ 2 #[.int .i64 0, .int .i64 0, .slice none 0 0] 28 ?_; intro gb102 hg w20 hbox hb; have BK102 := Zz.mk (hbox); have GW102 := Zz.mk ((gw_ hg (B1_ HB.out GE101.out))); have GE102 := GW102; have NB101_102 := Zz.mk ((nb_ BK101.out hg)); have NB102_101 := Zz.mk NB101_102.out.symm; replace BK101 := Zz.mk (kb_ BK101.out hb); replace HB := Zz.mk (bT_ (B1_ HB.out GE101.out) hb); clear hb hbox hg; have hnb21 := NB101_102.out; have hnc21 := NB102_101.out; obtain ⟨hcz22_0, hcz22_1, hcz22_2, hcz22_3, hfz22_0, hfz22_1, hfz22_2, hfz22_3⟩ := Z4f_ BK101.out) | ((with_reducible refine gC_ (f := 79) rfl ?_); refine GL_ (some 5) rfl rfl Try.func79 #[.agg #[.int .i64 a0_0, .int .i64 a0_1, .int .i64 a0_2, .slice A0_3 l0_3.length c0_3]] rfl (h := ?_); (with_reducible refine (z79.calls k a0_0 a0_1 a0_2 _ _ l0_3 false _ ?side1 ?side2 A2.out).mono ?_); (case side1 => exact KC_ (Kd.C_below HR0_3.out HB.out)); (case side2 => exact HC0_3.out); rintro e w23 ⟨rfl, hb⟩; refine ⟨_, rfl, ?_⟩; replace BK101 := Zz.mk (kb_ BK101.out hb); replace BK102 := Zz.mk (kb_ BK102.out hb); replace HB := Zz.mk (bT_ (B2_ HB.out GE101.out GE102.out) hb); (try clear hb); obtain ⟨hcz24_0, hcz24_1, hcz24_2, hfz24_0, hfz24_1, hfz24_2⟩ := Z3f_ BK102.out))
 refine bodyPost_ret (qFj rfl _ _ gb102 28 #[.int .i64 0, .int .i64 0, .slice none 0 0] (0, 0) _ rfl (by refine BW_ ?_; refine bP_ (cs := #[.int .i64 0, .int .i64 0, .slice none 0 0]) ?_ 2 _ rfl; refine BW_ ?_; refine bP_ (cs := #[.int .i64 0, .int .i64 0, .slice none 0 0]) ?_ 1 _ rfl; refine BW_ ?_; refine bP_ (cs := #[.int .i64 0, .int .i64 0, .slice none 0 0]) ?_ 0 _ rfl; refine BW_ ?_; exact BK102.out) Try.underlying28 rfl (by kernel_rfl)) rfl ?_
 exact ⟨_, F_, by first | exact Kd.S_nil _ _ _ _ _ | exact Kd.N_nil _ _ _ _ _ | exact Kd.V_nil _ _ _ _ _ | exact Kd.Q_nil _ _ _ _ _ | exact Kd.R_nil _ _ _ _ _, B2_ HB.out GE101.out GE102.out⟩
end Go.Proofs.Ytkgajpngeglkmaa.B
