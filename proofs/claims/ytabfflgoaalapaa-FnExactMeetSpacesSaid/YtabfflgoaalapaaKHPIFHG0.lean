/- Printed proofs of functions of the program and of the reference, by a program of this work over the kit's printer. -/
import Derived.Test.YtabfflgoaalapaaKENHNJJ0
import Derived.Test.YtabfflgoaalapaaKFPGKKO0
import Derived.Test.YtabfflgoaalapaaKHLBPAE0
import Derived.Test.YtabfflgoaalapaaKOFDAOP0
import Derived.Test.YtabfflgoaalapaaKW0
namespace Go.Proofs.Ytabfflgoaalapaa.B
open Go.RowKit Go.Proofs.YtabfflgoaalapaaW.PrintWords Go.Proofs.YtabfflgoaalapaaW.PrintLast Go.Proofs.YtabfflgoaalapaaW.PrintMore
attribute [local go_sem] qAo qAm qAq qAp qAk qAj qAn qAl
set_option linter.unusedVariables false
set_option linter.unusedSimpArgs false
def z51.f (k : Nat) (a0_0 : Int) (a0_1 : Int) (l0_2 : List (List Int)) (a1_0 : Int) (a1_1 : Int) (l1_2 : List (List Int)) : Option (Int × Int × (List (List Int)) × Int) := (z63.f k a0_0 a0_1 l0_2 a1_0 a1_1 l1_2).bind fun t104 => (if t104 = 0 then ((z100.f k a0_0 a0_1 l0_2).bind fun bt105 => ((z100.f k a1_0 a1_1 l1_2).bind fun bt110 => ((z64.f k bt105.1 bt105.2.1 bt105.2.2 bt110.1 bt110.2.1 bt110.2.2).bind fun bt115 => ((z100.f k bt115.1 bt115.2.1 bt115.2.2).bind fun bt120 => (some (bt120.1, bt120.2.1, bt120.2.2, 0)))))) else (some (0, 0, ([] : List (List Int)), t104)))
def z51.T4 : Bool × List (List Nat × List Nat) := (true, [([], []), ([0], [0]), ([], []), ([2, 1], [2]), ([1, 3, 3], [1, 3]), ([4, 4], [4]), ([5, 5, 0, 1, 2, 3, 4, 5], [5]), ([6, 0, 1, 2, 3, 4, 5, 6], [])])
def z51.B4 : List Nat := [0, 1, 0, 7, 15, 31, 63, 127]
theorem z51.tab4 : rtab .any (qBt Try.f51 4) = z51.T4 := by kernel_rfl
theorem z51.bits4 : qA4 z51.T4.2 z51.B4 = true := by kernel_rfl
set_option maxHeartbeats 8000000 in
set_option maxRecDepth 100000 in
theorem z51.calls (k : Nat) (a0_0 : Int) (a0_1 : Int) (A0_2 : Option Addr) (c0_2 : Nat) (l0_2 : List (List Int)) (a1_0 : Int) (a1_1 : Int) (A1_2 : Option Addr) (c1_2 : Nat) (l1_2 : List (List Int)) (r1 : Int) (r2 : Int) (r3 : List (List Int)) (r4 : Int) (w : World) (hr0_2 : Kd.C (Kd.slice 2 (Kd.int .i64)) w A0_2 l0_2.length l0_2) (hc0_2 : l0_2.length ≤ c0_2) (hr1_2 : Kd.C (Kd.slice 2 (Kd.int .i64)) w A1_2 l1_2.length l1_2) (hc1_2 : l1_2.length ≤ c1_2) (h : z51.f k a0_0 a0_1 l0_2 a1_0 a1_1 l1_2 = some (r1, r2, r3, r4)) :
  Calls Try.prog 51 #[.agg #[.int .i64 a0_0, .int .i64 a0_1, .slice A0_2 l0_2.length c0_2], .agg #[.int .i64 a1_0, .int .i64 a1_1, .slice A1_2 l1_2.length c1_2]] w fun e w' => ∃ v2_ : Value, e = .returned (.tuple #[.agg #[.int .i64 r1, .int .i64 r2, v2_], .int .i64 r4]) ∧ Kd.S (Kd.slice 2 (Kd.int .i64)) 25 w' w.heap.size (fun _ => True) v2_ r3 ∧ Below w.heap.size w w' := by
 have hu29 := Try.underlying29
 have HR0_2 := Zz.mk hr0_2
 have HC0_2 := Zz.mk hc0_2
 clear hr0_2 hc0_2
 have HR1_2 := Zz.mk hr1_2
 have HC1_2 := Zz.mk hc1_2
 clear hr1_2 hc1_2
 have HB := Zz.mk (Below.refl w.heap.size w)
 have H : ((z63.f k a0_0 a0_1 l0_2 a1_0 a1_1 l1_2).bind fun t104 => (if t104 = 0 then ((z100.f k a0_0 a0_1 l0_2).bind fun bt105 => ((z100.f k a1_0 a1_1 l1_2).bind fun bt110 => ((z64.f k bt105.1 bt105.2.1 bt105.2.2 bt110.1 bt110.2.1 bt110.2.2).bind fun bt115 => ((z100.f k bt115.1 bt115.2.1 bt115.2.2).bind fun bt120 => (some (bt120.1, bt120.2.1, bt120.2.2, 0)))))) else (some (0, 0, ([] : List (List Int)), t104)))) = some (r1, r2, r3, r4) := h
 clear h
 replace H := OB_ H
 obtain ⟨t104, A30, H⟩ := H
 replace H : (if t104 = 0 then ((z100.f k a0_0 a0_1 l0_2).bind fun bt105 => ((z100.f k a1_0 a1_1 l1_2).bind fun bt110 => ((z64.f k bt105.1 bt105.2.1 bt105.2.2 bt110.1 bt110.2.1 bt110.2.2).bind fun bt115 => ((z100.f k bt115.1 bt115.2.1 bt115.2.2).bind fun bt120 => (some (bt120.1, bt120.2.1, bt120.2.2, 0)))))) else (some (0, 0, ([] : List (List Int)), t104))) = some (r1, r2, r3, r4) := H
 have A3 := Zz.mk A30
 clear A30
 by_cases c4 : t104 = 0
 ·rw [if_pos c4] at H
  have c4b0 : (t104 == 0) = true := beq_iff_eq.mpr c4
  have c4b1 : (t104 != 0) = false := bne_eq_false_iff_eq.mpr c4
  clear c4
  replace H := OB_ H
  obtain ⟨⟨t105, t106, t107⟩, A50, H⟩ := H
  replace H : ((z100.f k a1_0 a1_1 l1_2).bind fun bt110 => ((z64.f k t105 t106 t107 bt110.1 bt110.2.1 bt110.2.2).bind fun bt115 => ((z100.f k bt115.1 bt115.2.1 bt115.2.2).bind fun bt120 => (some (bt120.1, bt120.2.1, bt120.2.2, 0))))) = some (r1, r2, r3, r4) := H
  have A5 := Zz.mk A50
  clear A50
  replace H := OB_ H
  obtain ⟨⟨t110, t111, t112⟩, A60, H⟩ := H
  replace H : ((z64.f k t105 t106 t107 t110 t111 t112).bind fun bt115 => ((z100.f k bt115.1 bt115.2.1 bt115.2.2).bind fun bt120 => (some (bt120.1, bt120.2.1, bt120.2.2, 0)))) = some (r1, r2, r3, r4) := H
  have A6 := Zz.mk A60
  clear A60
  replace H := OB_ H
  obtain ⟨⟨t115, t116, t117⟩, A70, H⟩ := H
  replace H : ((z100.f k t115 t116 t117).bind fun bt120 => (some (bt120.1, bt120.2.1, bt120.2.2, 0))) = some (r1, r2, r3, r4) := H
  have A7 := Zz.mk A70
  clear A70
  replace H := OB_ H
  obtain ⟨⟨t120, t121, t122⟩, A80, H⟩ := H
  replace H : (some (t120, t121, t122, 0)) = some (r1, r2, r3, r4) := H
  have A8 := Zz.mk A80
  clear A80
  simp only [Option.some.injEq, Prod.mk.injEq] at H
  obtain ⟨rfl, rfl, rfl, rfl⟩ := H
  go_enter Try.func51, Try.ntmps51
  try go_wp2_with (first | ((with_reducible refine qAh (N := 2) rfl ?_); refine bx_ 2 #[.int .i64 a0_0, .int .i64 a0_1, .slice A0_2 l0_2.length c0_2] 29 ?_; intro gb101 hg w9 hbox hb; have BK101 := Zz.mk (hbox); have GW101 := Zz.mk ((gw_ hg (B_ HB.out))); have GE101 := GW101; replace HB := Zz.mk (bT_ (B_ HB.out) hb); clear hb hbox hg) | ((with_reducible refine qAh (N := 3) rfl ?_); refine bx_ 3 #[.int .i64 a1_0, .int .i64 a1_1, .slice A1_2 l1_2.length c1_2] 29 ?_; intro gb102 hg w10 hbox hb; have BK102 := Zz.mk (hbox); have GW102 := Zz.mk ((gw_ hg (B1_ HB.out GE101.out))); have GE102 := GW102; have NB101_102 := Zz.mk ((nb_ BK101.out hg)); have NB102_101 := Zz.mk NB101_102.out.symm; replace BK101 := Zz.mk (kb_ BK101.out hb); replace HB := Zz.mk (bT_ (B1_ HB.out GE101.out) hb); clear hb hbox hg) | ((with_reducible refine qAh (N := 4) rfl ?_); refine bx_ 4 #[.int .i64 0, .int .i64 0, .slice none 0 0] 29 ?_; intro gb103 hg w11 hbox hb; have BK103 := Zz.mk (hbox); have GW103 := Zz.mk ((gw_ hg (B2_ HB.out GE101.out GE102.out))); have GE103 := GW103; have NB101_103 := Zz.mk ((nb_ BK101.out hg)); have NB103_101 := Zz.mk NB101_103.out.symm; have NB102_103 := Zz.mk ((nb_ BK102.out hg)); have NB103_102 := Zz.mk NB102_103.out.symm; replace BK101 := Zz.mk (kb_ BK101.out hb); replace BK102 := Zz.mk (kb_ BK102.out hb); replace HB := Zz.mk (bT_ (B2_ HB.out GE101.out GE102.out) hb); clear hb hbox hg; have hnb12 := NB101_102.out; have hnc12 := NB102_101.out; have hnb13 := NB101_103.out; have hnc13 := NB103_101.out; obtain ⟨hcz14_0, hcz14_1, hcz14_2, hfz14_0, hfz14_1, hfz14_2⟩ := Z3f_ BK101.out; have hnb15 := NB102_103.out; have hnc15 := NB103_102.out; obtain ⟨hcz16_0, hcz16_1, hcz16_2, hfz16_0, hfz16_1, hfz16_2⟩ := Z3f_ BK102.out) | ((with_reducible refine gC_ (f := 63) rfl ?_); refine GL_ (some 9) rfl rfl Try.func63 #[.agg #[.int .i64 a0_0, .int .i64 a0_1, .slice A0_2 l0_2.length c0_2], .agg #[.int .i64 a1_0, .int .i64 a1_1, .slice A1_2 l1_2.length c1_2]] rfl (h := ?_); (with_reducible refine (z63.calls k a0_0 a0_1 _ _ l0_2 a1_0 a1_1 _ _ l1_2 t104 _ ?side1 ?side2 ?side3 ?side4 A3.out).mono ?_); (case side1 => exact KC_ (Kd.C_below HR0_2.out HB.out)); (case side2 => exact HC0_2.out); (case side3 => exact KC_ (Kd.C_below HR1_2.out HB.out)); (case side4 => exact HC1_2.out); rintro e w17 ⟨rfl, hb⟩; refine ⟨_, rfl, ?_⟩; replace BK101 := Zz.mk (kb_ BK101.out hb); replace BK102 := Zz.mk (kb_ BK102.out hb); replace BK103 := Zz.mk (kb_ BK103.out hb); replace HB := Zz.mk (bT_ (B3_ HB.out GE101.out GE102.out GE103.out) hb); (try clear hb)))
  replace BK101 := Zz.mk (bD_ BK101.out)
  replace BK102 := Zz.mk (bD_ BK102.out)
  replace BK103 := Zz.mk (bD_ BK103.out)
  replace HB := Zz.mk (qAc HB.out)
  refine qA5 (n := 8) (S := fun w' => w'.cell? ⟨gb101, 0, none⟩ = some (.int .i64 a0_0) ∧ w'.cell? ⟨gb101, 1, none⟩ = some (.int .i64 a0_1) ∧ w'.cell? ⟨gb101, 2, none⟩ = some (.slice A0_2 l0_2.length c0_2) ∧ w'.cell? ⟨gb102, 0, none⟩ = some (.int .i64 a1_0) ∧ w'.cell? ⟨gb102, 1, none⟩ = some (.int .i64 a1_1) ∧ w'.cell? ⟨gb102, 2, none⟩ = some (.slice A1_2 l1_2.length c1_2)) (ds := []) (tb_ 8 0) (by kernel_rfl) rfl rfl (Z3a_ BK101.out (Z3_ BK102.out)) (fun hHeld => ?_); refine qAw z51.tab4 z51.bits4 (fun HT_ HW_ => ?_)
  generalize w17.drew = w18 at BK101 BK102 BK103 HB hHeld ⊢
  refine TV_ (i := 0) (N := some 14) (tb_ 8 1) HT_ HW_ rfl rfl hHeld (by rintro w' ⟨s0, s1, s2, s3, s4, s5⟩; go_simp; with_reducible rfl) (h := ?_)
  refine TV_ (i := 2) (N := some 16) (tb_ 8 5) HT_ HW_ rfl rfl hHeld (by rintro w' ⟨s0, s1, s2, s3, s4, s5⟩; go_simp; with_reducible rfl) (h := ?_)
  refine one_ (i := 1) (N := some 15) (tb_ 8 7) rfl rfl (qAr HT_.out (by kernel_rfl)) (by decide) (fun K hK => ?_)
  refine GO_ Try.func100 #[.agg #[.int .i64 a0_0, .int .i64 a0_1, .slice A0_2 l0_2.length c0_2]] (h := ?_)
  with_reducible refine (z100.calls k a0_0 a0_1 _ _ l0_2 t105 t106 t107 _ ?side1 ?side2 A5.out).mono ?_
  (case side1 => exact KC_ (Kd.C_below HR0_2.out HB.out))
  (case side2 => exact HC0_2.out)
  rintro e w19 ⟨v108, rfl, ho0, hb⟩
  refine ⟨_, rfl, ?_⟩
  have HO109 := Zz.mk (Kd.S_lower ho0 (bS_ (B3_ HB.out GE101.out GE102.out GE103.out)))
  replace BK101 := Zz.mk (kb_ BK101.out hb)
  replace BK102 := Zz.mk (kb_ BK102.out hb)
  replace BK103 := Zz.mk (kb_ BK103.out hb)
  replace HB := Zz.mk (bT_ (B3_ HB.out GE101.out GE102.out GE103.out) hb)
  (try clear hb);(try clear ho0)
  refine hK.out _ _ (Z3a_ BK101.out (Z3_ BK102.out)) (fun hHeld => ?_)
  clear hK K
  refine NM_ (N := (some 15)) (h := ?_)
  refine one_ (i := 3) (N := some 17) (tb_ 8 15) rfl rfl (qAr HT_.out (by kernel_rfl)) (by decide) (fun K hK => ?_)
  refine GO_ Try.func100 #[.agg #[.int .i64 a1_0, .int .i64 a1_1, .slice A1_2 l1_2.length c1_2]] (h := ?_)
  with_reducible refine (z100.calls k a1_0 a1_1 _ _ l1_2 t110 t111 t112 _ ?side1 ?side2 A6.out).mono ?_
  (case side1 => exact KC_ (Kd.C_below HR1_2.out HB.out))
  (case side2 => exact HC1_2.out)
  rintro e w20 ⟨v113, rfl, ho0, hb⟩
  refine ⟨_, rfl, ?_⟩
  have HO114 := Zz.mk (Kd.S_lower (Kd.S_new' ho0 (Kd.S_lt (KS_ HO109.out))) (bS_ (B3_ HB.out GE101.out GE102.out GE103.out)))
  replace HO109 := Zz.mk (Kd.S_elder' (KS_ HO109.out) (Kd.S_base ho0) hb)
  replace BK101 := Zz.mk (kb_ BK101.out hb)
  replace BK102 := Zz.mk (kb_ BK102.out hb)
  replace BK103 := Zz.mk (kb_ BK103.out hb)
  replace HB := Zz.mk (bT_ (B3_ HB.out GE101.out GE102.out GE103.out) hb)
  (try clear hb);(try clear ho0)
  obtain ⟨Ao21, co21, eo21⟩ := Kd.S_slice HO109.out
  (first | subst eo21 | obtain ⟨rfl, rfl⟩ := sl_ eo21)
  obtain ⟨Ao22, co22, eo22⟩ := Kd.S_slice HO114.out
  (first | subst eo22 | obtain ⟨rfl, rfl⟩ := sl_ eo22)
  refine hK.out _ _ (Z3a_ BK101.out (Z3_ BK102.out)) (fun hHeld => ?_)
  clear hK K
  refine NM_ (N := (some 17)) (h := ?_)
  refine one_ (i := 4) (N := some 18) (tb_ 8 31) rfl rfl (qAr HT_.out (by kernel_rfl)) (by decide) (fun K hK => ?_)
  refine GO_ Try.func64 #[.agg #[.int .i64 t105, .int .i64 t106, .slice Ao21 t107.length co21], .agg #[.int .i64 t110, .int .i64 t111, .slice Ao22 t112.length co22]] (h := ?_)
  with_reducible refine (z64.calls k t105 t106 (fun k_ => ((((True ∧ some k_ ≠ (.slice Ao22 t112.length co22 : Value).ownBlock) ∧ k_ ≠ gb101) ∧ k_ ≠ gb102) ∧ k_ ≠ gb103)) _ _ t107 t110 t111 (fun k_ => ((((True ∧ some k_ ≠ (.slice Ao21 t107.length co21 : Value).ownBlock) ∧ k_ ≠ gb101) ∧ k_ ≠ gb102) ∧ k_ ≠ gb103)) _ _ t112 t115 t116 t117 _ ?side1 ?side2 A7.out).mono ?_
  (case side1 => exact Kd.S_V (Kd.S_types (Kd.S_types (Kd.S_types (HO109.out) BK101.out (by decide)) BK102.out (by decide)) BK103.out (by decide)))
  (case side2 => exact Kd.S_V (Kd.S_types (Kd.S_types (Kd.S_types (HO114.out) BK101.out (by decide)) BK102.out (by decide)) BK103.out (by decide)))
  rintro e w23 ⟨v118, rfl, ho0, hb⟩
  refine ⟨_, rfl, ?_⟩
  have HO119 := Zz.mk (Kd.S_lower (Kd.S_new' (Kd.S_new' (Kd.S_mono (ok' := fun k_ => True) ho0 (fun _ hk_ => trivial)) (Kd.S_lt (KS_ HO109.out))) (Kd.S_lt (KS_ HO114.out))) (bS_ (B3_ HB.out GE101.out GE102.out GE103.out)))
  replace HO109 := Zz.mk (Kd.S_elder' (KS_ HO109.out) (Kd.S_base ho0) hb)
  replace HO114 := Zz.mk (Kd.S_elder' (KS_ HO114.out) (Kd.S_base ho0) hb)
  replace BK101 := Zz.mk (kb_ BK101.out hb)
  replace BK102 := Zz.mk (kb_ BK102.out hb)
  replace BK103 := Zz.mk (kb_ BK103.out hb)
  replace HB := Zz.mk (bT_ (B3_ HB.out GE101.out GE102.out GE103.out) hb)
  (try clear hb);(try clear ho0)
  obtain ⟨Ao24, co24, eo24⟩ := Kd.S_slice HO119.out
  (first | subst eo24 | obtain ⟨rfl, rfl⟩ := sl_ eo24)
  refine hK.out _ _ (Z3a_ BK101.out (Z3_ BK102.out)) (fun hHeld => ?_)
  clear hK K
  refine NM_ (N := (some 18)) (h := ?_)
  refine one_ (i := 5) (N := some 19) (tb_ 8 63) rfl rfl (qAr HT_.out (by kernel_rfl)) (by decide) (fun K hK => ?_)
  refine GO_ Try.func100 #[.agg #[.int .i64 t115, .int .i64 t116, .slice Ao24 t117.length co24]] (h := ?_)
  with_reducible refine (z100.calls k t115 t116 _ _ t117 t120 t121 t122 _ ?side1 ?side2 A8.out).mono ?_
  (case side1 => exact KC_ (Kd.S_reads' HO119.out).2.2)
  (case side2 => exact (Kd.S_reads' HO119.out).2.1)
  rintro e w25 ⟨v123, rfl, ho0, hb⟩
  refine ⟨_, rfl, ?_⟩
  have HO124 := Zz.mk (Kd.S_lower (Kd.S_new' (Kd.S_new' (Kd.S_new' ho0 (Kd.S_lt (KS_ HO109.out))) (Kd.S_lt (KS_ HO114.out))) (Kd.S_lt (KS_ HO119.out))) (bS_ (B3_ HB.out GE101.out GE102.out GE103.out)))
  replace HO109 := Zz.mk (Kd.S_elder' (KS_ HO109.out) (Kd.S_base ho0) hb)
  replace HO114 := Zz.mk (Kd.S_elder' (KS_ HO114.out) (Kd.S_base ho0) hb)
  replace HO119 := Zz.mk (Kd.S_elder' (KS_ HO119.out) (Kd.S_base ho0) hb)
  replace BK101 := Zz.mk (kb_ BK101.out hb)
  replace BK102 := Zz.mk (kb_ BK102.out hb)
  replace BK103 := Zz.mk (kb_ BK103.out hb)
  replace HB := Zz.mk (bT_ (B3_ HB.out GE101.out GE102.out GE103.out) hb)
  (try clear hb);(try clear ho0)
  obtain ⟨Ao28, co28, eo28⟩ := Kd.S_slice HO124.out
  (first | subst eo28 | obtain ⟨rfl, rfl⟩ := sl_ eo28)
  refine hK.out _ _ (Z3a_ BK101.out (Z3_ BK102.out)) (fun hHeld => ?_)
  clear hK K
  refine NM_ (N := (some 19)) (h := ?_)
  refine one_ (i := 6) (N := none) (tb_ 8 127) rfl rfl (qAr HT_.out (by kernel_rfl)) (by decide) (fun K hK => ?_)
  have hs26 : w25.cell? ⟨gb103, 0, none⟩ = some (.int .i64 0) := (bC_ BK103.out 0).trans rfl
  have hfs26 := bF_ BK103.out 0
  have hns26_0 := NB101_103.out
  have hns26_1 := NB102_103.out
  have hms26_0 := NB103_101.out
  have hms26_1 := NB103_102.out
  have hs27 : w25.cell? ⟨gb103, 1, none⟩ = some (.int .i64 0) := (bC_ BK103.out 1).trans rfl
  have hfs27 := bF_ BK103.out 1
  have hns27_0 := NB101_103.out
  have hns27_1 := NB102_103.out
  have hms27_0 := NB103_101.out
  have hms27_1 := NB103_102.out
  have hs29 : w25.cell? ⟨gb103, 2, none⟩ = some (.slice none 0 0) := (bC_ BK103.out 2).trans rfl
  have hfs29 := bF_ BK103.out 2
  have hns29_0 := NB101_103.out
  have hns29_1 := NB102_103.out
  have hms29_0 := NB103_101.out
  have hms29_1 := NB103_102.out
  refine qB9 (w1 := ?_) (by rfl) rfl ?_ ?_
  rotate_left
  ·go_simp
   rfl
  refine hK.out _ _ ⟨((qAf (p := ⟨gb103, _, none⟩) NB101_103.out _).trans (((qAf (p := ⟨gb103, _, none⟩) NB101_103.out _).trans (((qAf (p := ⟨gb103, _, none⟩) NB101_103.out _).trans (hHeld.1)))))), ((qAf (p := ⟨gb103, _, none⟩) NB101_103.out _).trans (((qAf (p := ⟨gb103, _, none⟩) NB101_103.out _).trans (((qAf (p := ⟨gb103, _, none⟩) NB101_103.out _).trans (hHeld.2.1)))))), ((qAf (p := ⟨gb103, _, none⟩) NB101_103.out _).trans (((qAf (p := ⟨gb103, _, none⟩) NB101_103.out _).trans (((qAf (p := ⟨gb103, _, none⟩) NB101_103.out _).trans (hHeld.2.2.1)))))), ((qAf (p := ⟨gb103, _, none⟩) NB102_103.out _).trans (((qAf (p := ⟨gb103, _, none⟩) NB102_103.out _).trans (((qAf (p := ⟨gb103, _, none⟩) NB102_103.out _).trans (hHeld.2.2.2.1)))))), ((qAf (p := ⟨gb103, _, none⟩) NB102_103.out _).trans (((qAf (p := ⟨gb103, _, none⟩) NB102_103.out _).trans (((qAf (p := ⟨gb103, _, none⟩) NB102_103.out _).trans (hHeld.2.2.2.2.1)))))), ((qAf (p := ⟨gb103, _, none⟩) NB102_103.out _).trans (((qAf (p := ⟨gb103, _, none⟩) NB102_103.out _).trans (((qAf (p := ⟨gb103, _, none⟩) NB102_103.out _).trans (hHeld.2.2.2.2.2))))))⟩ (fun hHeld => ?_)
  clear hK K
  refine PX_ 7 5 (tb_ 8 255) HT_ rfl rfl ?_
  refine qBd (qA2 HT_.out (by kernel_rfl)) ?_
  try go_wp2
  refine bodyPost_ret (qBg rfl _ _ gb103 29 #[.int .i64 t120, .int .i64 t121, .slice Ao28 t122.length co28] (0, 0) _ rfl (by refine BW_ ?_; refine bP_ (cs := #[.int .i64 t120, .int .i64 t121, .slice none 0 0]) ?_ 2 _ rfl; refine BW_ ?_; refine bP_ (cs := #[.int .i64 t120, .int .i64 0, .slice none 0 0]) ?_ 1 _ rfl; refine BW_ ?_; refine bP_ (cs := #[.int .i64 0, .int .i64 0, .slice none 0 0]) ?_ 0 _ rfl; refine BW_ ?_; exact BK103.out) Try.underlying29 rfl (by kernel_rfl)) rfl ?_
  exact ⟨_, F_, by refine SW_ ?_; exact Kd.S_mono (Kd.S_far (p := ⟨gb103, 2, none⟩) (Kd.S_far (p := ⟨gb103, 1, none⟩) (Kd.S_far (p := ⟨gb103, 0, none⟩) (Kd.S_types HO124.out BK103.out (by decide)) (fun _ hk => hk.2) (.int .i64 t120)) (fun _ hk => hk.2) (.int .i64 t121)) (fun _ hk => hk.2) (.slice Ao28 t122.length co28)) (fun _ hk => trivial), B3_ HB.out GE101.out GE102.out GE103.out⟩
 rw [if_neg c4] at H
 have c4b0 : (t104 == 0) = false := beq_eq_false_iff_ne.mpr c4
 have c4b1 : (t104 != 0) = true := bne_iff_ne.mpr c4
 simp only [Option.some.injEq, Prod.mk.injEq] at H
 obtain ⟨rfl, rfl, rfl, rfl⟩ := H
 go_enter Try.func51, Try.ntmps51
 go_wp2_with (first | ((with_reducible refine qAh (N := 2) rfl ?_); refine bx_ 2 #[.int .i64 a0_0, .int .i64 a0_1, .slice A0_2 l0_2.length c0_2] 29 ?_; intro gb101 hg w30 hbox hb; have BK101 := Zz.mk (hbox); have GW101 := Zz.mk ((gw_ hg (B_ HB.out))); have GE101 := GW101; replace HB := Zz.mk (bT_ (B_ HB.out) hb); clear hb hbox hg) | ((with_reducible refine qAh (N := 3) rfl ?_); refine bx_ 3 #[.int .i64 a1_0, .int .i64 a1_1, .slice A1_2 l1_2.length c1_2] 29 ?_; intro gb102 hg w31 hbox hb; have BK102 := Zz.mk (hbox); have GW102 := Zz.mk ((gw_ hg (B1_ HB.out GE101.out))); have GE102 := GW102; have NB101_102 := Zz.mk ((nb_ BK101.out hg)); have NB102_101 := Zz.mk NB101_102.out.symm; replace BK101 := Zz.mk (kb_ BK101.out hb); replace HB := Zz.mk (bT_ (B1_ HB.out GE101.out) hb); clear hb hbox hg) | ((with_reducible refine qAh (N := 4) rfl ?_); refine bx_ 4 #[.int .i64 0, .int .i64 0, .slice none 0 0] 29 ?_; intro gb103 hg w32 hbox hb; have BK103 := Zz.mk (hbox); have GW103 := Zz.mk ((gw_ hg (B2_ HB.out GE101.out GE102.out))); have GE103 := GW103; have NB101_103 := Zz.mk ((nb_ BK101.out hg)); have NB103_101 := Zz.mk NB101_103.out.symm; have NB102_103 := Zz.mk ((nb_ BK102.out hg)); have NB103_102 := Zz.mk NB102_103.out.symm; replace BK101 := Zz.mk (kb_ BK101.out hb); replace BK102 := Zz.mk (kb_ BK102.out hb); replace HB := Zz.mk (bT_ (B2_ HB.out GE101.out GE102.out) hb); clear hb hbox hg; have hnb33 := NB101_102.out; have hnc33 := NB102_101.out; have hnb34 := NB101_103.out; have hnc34 := NB103_101.out; obtain ⟨hcz35_0, hcz35_1, hcz35_2, hfz35_0, hfz35_1, hfz35_2⟩ := Z3f_ BK101.out; have hnb36 := NB102_103.out; have hnc36 := NB103_102.out; obtain ⟨hcz37_0, hcz37_1, hcz37_2, hfz37_0, hfz37_1, hfz37_2⟩ := Z3f_ BK102.out) | ((with_reducible refine gC_ (f := 63) rfl ?_); refine GL_ (some 9) rfl rfl Try.func63 #[.agg #[.int .i64 a0_0, .int .i64 a0_1, .slice A0_2 l0_2.length c0_2], .agg #[.int .i64 a1_0, .int .i64 a1_1, .slice A1_2 l1_2.length c1_2]] rfl (h := ?_); (with_reducible refine (z63.calls k a0_0 a0_1 _ _ l0_2 a1_0 a1_1 _ _ l1_2 t104 _ ?side1 ?side2 ?side3 ?side4 A3.out).mono ?_); (case side1 => exact KC_ (Kd.C_below HR0_2.out HB.out)); (case side2 => exact HC0_2.out); (case side3 => exact KC_ (Kd.C_below HR1_2.out HB.out)); (case side4 => exact HC1_2.out); rintro e w38 ⟨rfl, hb⟩; refine ⟨_, rfl, ?_⟩; replace BK101 := Zz.mk (kb_ BK101.out hb); replace BK102 := Zz.mk (kb_ BK102.out hb); replace BK103 := Zz.mk (kb_ BK103.out hb); replace HB := Zz.mk (bT_ (B3_ HB.out GE101.out GE102.out GE103.out) hb); (try clear hb); obtain ⟨hcz39_0, hcz39_1, hcz39_2, hfz39_0, hfz39_1, hfz39_2⟩ := Z3f_ BK103.out))
 refine bodyPost_ret (qBg rfl _ _ gb103 29 #[.int .i64 0, .int .i64 0, .slice none 0 0] (0, 0) _ rfl (by refine BW_ ?_; refine bP_ (cs := #[.int .i64 0, .int .i64 0, .slice none 0 0]) ?_ 2 _ rfl; refine BW_ ?_; refine bP_ (cs := #[.int .i64 0, .int .i64 0, .slice none 0 0]) ?_ 1 _ rfl; refine BW_ ?_; refine bP_ (cs := #[.int .i64 0, .int .i64 0, .slice none 0 0]) ?_ 0 _ rfl; refine BW_ ?_; exact BK103.out) Try.underlying29 rfl (by kernel_rfl)) rfl ?_
 exact ⟨_, F_, by first | exact Kd.S_nil _ _ _ _ _ | exact Kd.N_nil _ _ _ _ _ | exact Kd.V_nil _ _ _ _ _ | exact Kd.Q_nil _ _ _ _ _ | exact Kd.R_nil _ _ _ _ _, B3_ HB.out GE101.out GE102.out GE103.out⟩
end Go.Proofs.Ytabfflgoaalapaa.B
