/- Printed proofs of functions of the program and of the reference, by a program of this work over the kit's printer. -/
import Derived.Test.YtpgjfppbbbnclaaKCPGEII0
import Derived.Test.YtpgjfppbbbnclaaKLEKPEN0
import Derived.Test.YtpgjfppbbbnclaaKPJHBFI0
import Derived.Test.YtpgjfppbbbnclaaKW0
namespace Go.Proofs.Ytpgjfppbbbnclaa.B
open Go.RowKit Go.Proofs.YtpgjfppbbbnclaaW.PrintWords Go.Proofs.YtpgjfppbbbnclaaW.PrintLast Go.Proofs.YtpgjfppbbbnclaaW.PrintMore
attribute [local go_sem] qAh qAf qAl qAk qAc qAb qAg qAe
set_option linter.unusedVariables false
set_option linter.unusedSimpArgs false
def z40.f (k : Nat) (l0_0 : List (List Int)) (a1 : Int) (a2 : Int) : Option (Int × Int × (List (List Int))) := (z42.f k l0_0 (wrap64 (a1 + 1)) a2).bind fun bt103 => ((z62.f k bt103.1 bt103.2.1 bt103.2.2.1 bt103.2.2.2).bind fun t110 => ((z60.f k a2 bt103.2.1 t110).bind fun bt113 => (some (bt113.1, bt113.2.1, bt113.2.2))))
set_option maxHeartbeats 8000000 in
set_option maxRecDepth 100000 in
theorem z40.calls (k : Nat) (A0_0 : Option Addr) (c0_0 : Nat) (l0_0 : List (List Int)) (a1 : Int) (a2 : Int) (r1 : Int) (r2 : Int) (r3 : List (List Int)) (w : World) (hr0_0 : Kd.C (Kd.slice 2 (Kd.int .i64)) w A0_0 l0_0.length l0_0) (hc0_0 : l0_0.length ≤ c0_0) (h : z40.f k l0_0 a1 a2 = some (r1, r2, r3)) :
  Calls Try.prog 40 #[.agg #[.slice A0_0 l0_0.length c0_0], .int .i64 a1, .int .i64 a2] w fun e w' => ∃ v2_ : Value, e = .returned (.agg #[.int .i64 r1, .int .i64 r2, v2_]) ∧ Kd.S (Kd.slice 2 (Kd.int .i64)) 26 w' w.heap.size (fun _ => True) v2_ r3 ∧ Below w.heap.size w w' := by
 have hu29 := Try.underlying29
 have hu60 := Try.underlying60
 have hu51 := Try.underlying51
 have HR0_0 := Zz.mk hr0_0
 have HC0_0 := Zz.mk hc0_0
 clear hr0_0 hc0_0
 have HB := Zz.mk (Below.refl w.heap.size w)
 have H : ((z42.f k l0_0 (wrap64 (a1 + 1)) a2).bind fun bt103 => ((z62.f k bt103.1 bt103.2.1 bt103.2.2.1 bt103.2.2.2).bind fun t110 => ((z60.f k a2 bt103.2.1 t110).bind fun bt113 => (some (bt113.1, bt113.2.1, bt113.2.2))))) = some (r1, r2, r3) := h
 clear h
 replace H := OB_ H
 obtain ⟨⟨t103, t104, t105, t106⟩, A40, H⟩ := H
 replace H : ((z62.f k t103 t104 t105 t106).bind fun t110 => ((z60.f k a2 t104 t110).bind fun bt113 => (some (bt113.1, bt113.2.1, bt113.2.2)))) = some (r1, r2, r3) := H
 have A4 := Zz.mk A40
 clear A40
 replace H := OB_ H
 obtain ⟨t110, A50, H⟩ := H
 replace H : ((z60.f k a2 t104 t110).bind fun bt113 => (some (bt113.1, bt113.2.1, bt113.2.2))) = some (r1, r2, r3) := H
 have A5 := Zz.mk A50
 clear A50
 replace H := OB_ H
 obtain ⟨⟨t113, t114, t115⟩, A60, H⟩ := H
 replace H : (some (t113, t114, t115)) = some (r1, r2, r3) := H
 have A6 := Zz.mk A60
 clear A60
 simp only [Option.some.injEq, Prod.mk.injEq] at H
 obtain ⟨rfl, rfl, rfl⟩ := H
 go_enter Try.func40, Try.ntmps40
 try go_wp2_with (first | ((with_reducible refine qAm (N := 3) rfl ?_); refine bx_ 3 #[.slice A0_0 l0_0.length c0_0] 29 ?_; intro gb101 hg w7 hbox hb; have BK101 := Zz.mk (hbox); have GW101 := Zz.mk ((gw_ hg (B_ HB.out))); have GE101 := GW101; replace HB := Zz.mk (bT_ (B_ HB.out) hb); clear hb hbox hg) | ((with_reducible refine qAm (N := 6) rfl ?_); refine bx_ 6 #[.int .i64 0, .int .i64 0, .slice none 0 0] 60 ?_; intro gb102 hg w8 hbox hb; have BK102 := Zz.mk (hbox); have GW102 := Zz.mk ((gw_ hg (B1_ HB.out GE101.out))); have GE102 := GW102; have NB101_102 := Zz.mk ((nb_ BK101.out hg)); have NB102_101 := Zz.mk NB101_102.out.symm; replace BK101 := Zz.mk (kb_ BK101.out hb); replace HB := Zz.mk (bT_ (B1_ HB.out GE101.out) hb); clear hb hbox hg; have hnb9 := NB101_102.out; have hnc9 := NB102_101.out; obtain ⟨hcz10_0, hfz10_0⟩ := Z1f_ BK101.out) | ((with_reducible refine gC_ (f := 42) rfl ?_); refine GL_ (some 12) rfl rfl Try.func42 #[.agg #[.slice A0_0 l0_0.length c0_0], .int .i64 (wrap64 (a1 + 1)), .int .i64 a2] rfl (h := ?_); (with_reducible refine (z42.calls k _ _ l0_0 (wrap64 (a1 + 1)) a2 t103 t104 t105 t106 _ ?side1 ?side2 A4.out).mono ?_); (case side1 => exact KC_ (Kd.C_below HR0_0.out HB.out)); (case side2 => exact HC0_0.out); rintro e w11 ⟨v107, rfl, ho0, hb⟩; refine ⟨_, rfl, ?_⟩; have HO108 := Zz.mk (Kd.R_lower ho0 (bS_ (B2_ HB.out GE101.out GE102.out))); replace BK101 := Zz.mk (kb_ BK101.out hb); replace BK102 := Zz.mk (kb_ BK102.out hb); replace HB := Zz.mk (bT_ (B2_ HB.out GE101.out GE102.out) hb); (try clear hb); (try clear ho0)) | ((with_reducible refine qAm (N := 7) rfl ?_); refine bx_ 7 #[.int .i64 0, .int .i64 0, .int .i64 0, .slice none 0 0] 51 ?_; intro gb109 hg w12 hbox hb; have BK109 := Zz.mk (hbox); have GW109 := Zz.mk ((gw_ hg (B2_ HB.out GE101.out GE102.out))); have GE109 := GW109; have NB101_109 := Zz.mk ((nb_ BK101.out hg)); have NB109_101 := Zz.mk NB101_109.out.symm; have NB102_109 := Zz.mk ((nb_ BK102.out hg)); have NB109_102 := Zz.mk NB102_109.out.symm; replace HO108 := Zz.mk (Kd.R_below (KR_ HO108.out) hb); replace BK101 := Zz.mk (kb_ BK101.out hb); replace BK102 := Zz.mk (kb_ BK102.out hb); replace HB := Zz.mk (bT_ (B2_ HB.out GE101.out GE102.out) hb); clear hb hbox hg; have hnb13 := NB109_101.out; have hnc13 := NB101_109.out; have hnb14 := NB109_102.out; have hnc14 := NB102_109.out; obtain ⟨hcz15_0, hcz15_1, hcz15_2, hcz15_3, hfz15_0, hfz15_1, hfz15_2, hfz15_3⟩ := Z4f_ BK109.out; obtain ⟨Ao16, co16, eo16⟩ := Kd.R_slice HO108.out; subst eo16))
 have n0_ : Zz (Kd.R (Kd.int .i64) 2 ((((w12.setCell ⟨gb109, 0, none⟩ (.int .i64 t103)).setCell ⟨gb109, 1, none⟩ (.int .i64 t104)).setCell ⟨gb109, 2, none⟩ (.int .i64 t105)).setCell ⟨gb109, 3, none⟩ (.slice Ao16 t106.length co16)) w.heap.size (fun _ => True) (.slice Ao16 t106.length co16) t106) := ⟨by refine RW_ ?_; exact Kd.R_mono (Kd.R_far (p := ⟨gb109, 3, none⟩) (Kd.R_far (p := ⟨gb109, 2, none⟩) (Kd.R_far (p := ⟨gb109, 1, none⟩) (Kd.R_far (p := ⟨gb109, 0, none⟩) (Kd.R_types HO108.out BK109.out (by decide)) (fun _ hk => hk.2) (.int .i64 t103)) (fun _ hk => hk.2) (.int .i64 t104)) (fun _ hk => hk.2) (.int .i64 t105)) (fun _ hk => hk.2) (.slice Ao16 t106.length co16)) (fun _ hk => trivial)⟩
 have n1_ : Zz (((((w12.setCell ⟨gb109, 0, none⟩ (.int .i64 t103)).setCell ⟨gb109, 1, none⟩ (.int .i64 t104)).setCell ⟨gb109, 2, none⟩ (.int .i64 t105)).setCell ⟨gb109, 3, none⟩ (.slice Ao16 t106.length co16)).heap[gb101]? = some (.cells #[.slice A0_0 l0_0.length c0_0] 29 (0, 0))) := ⟨by refine BW_ ?_; refine bR_ ?_ NB101_109.out _; refine BW_ ?_; refine bR_ ?_ NB101_109.out _; refine BW_ ?_; refine bR_ ?_ NB101_109.out _; refine BW_ ?_; refine bR_ ?_ NB101_109.out _; refine BW_ ?_; exact BK101.out⟩
 have n2_ : Zz (((((w12.setCell ⟨gb109, 0, none⟩ (.int .i64 t103)).setCell ⟨gb109, 1, none⟩ (.int .i64 t104)).setCell ⟨gb109, 2, none⟩ (.int .i64 t105)).setCell ⟨gb109, 3, none⟩ (.slice Ao16 t106.length co16)).heap[gb102]? = some (.cells #[.int .i64 0, .int .i64 0, .slice none 0 0] 60 (0, 0))) := ⟨by refine BW_ ?_; refine bR_ ?_ NB102_109.out _; refine BW_ ?_; refine bR_ ?_ NB102_109.out _; refine BW_ ?_; refine bR_ ?_ NB102_109.out _; refine BW_ ?_; refine bR_ ?_ NB102_109.out _; refine BW_ ?_; exact BK102.out⟩
 have n3_ : Zz (((((w12.setCell ⟨gb109, 0, none⟩ (.int .i64 t103)).setCell ⟨gb109, 1, none⟩ (.int .i64 t104)).setCell ⟨gb109, 2, none⟩ (.int .i64 t105)).setCell ⟨gb109, 3, none⟩ (.slice Ao16 t106.length co16)).heap[gb109]? = some (.cells #[.int .i64 t103, .int .i64 t104, .int .i64 t105, .slice Ao16 t106.length co16] 51 (0, 0))) := ⟨by refine BW_ ?_; refine bP_ (cs := #[.int .i64 t103, .int .i64 t104, .int .i64 t105, .slice none 0 0]) ?_ 3 _ rfl; refine BW_ ?_; refine bP_ (cs := #[.int .i64 t103, .int .i64 t104, .int .i64 0, .slice none 0 0]) ?_ 2 _ rfl; refine BW_ ?_; refine bP_ (cs := #[.int .i64 t103, .int .i64 0, .int .i64 0, .slice none 0 0]) ?_ 1 _ rfl; refine BW_ ?_; refine bP_ (cs := #[.int .i64 0, .int .i64 0, .int .i64 0, .slice none 0 0]) ?_ 0 _ rfl; refine BW_ ?_; exact BK109.out⟩
 have n4_ : Zz (Below w.heap.size w ((((w12.setCell ⟨gb109, 0, none⟩ (.int .i64 t103)).setCell ⟨gb109, 1, none⟩ (.int .i64 t104)).setCell ⟨gb109, 2, none⟩ (.int .i64 t105)).setCell ⟨gb109, 3, none⟩ (.slice Ao16 t106.length co16))) := ⟨B3_ HB.out GE101.out GE102.out GE109.out⟩
 (try clear HO108);(try clear BK101);(try clear BK102);(try clear BK109);(try clear HB)
 generalize ((((w12.setCell ⟨gb109, 0, none⟩ (.int .i64 t103)).setCell ⟨gb109, 1, none⟩ (.int .i64 t104)).setCell ⟨gb109, 2, none⟩ (.int .i64 t105)).setCell ⟨gb109, 3, none⟩ (.slice Ao16 t106.length co16)) = w17 at n0_ n1_ n2_ n3_ n4_ ⊢
 have HO108 := n0_
 have BK101 := n1_
 have BK102 := n2_
 have BK109 := n3_
 have HB := n4_
 clear n0_ n1_ n2_ n3_ n4_
 replace HO108 := Zz.mk (Kd.R_drew HO108.out)
 replace BK101 := Zz.mk (bD_ BK101.out)
 replace BK102 := Zz.mk (bD_ BK102.out)
 replace BK109 := Zz.mk (bD_ BK109.out)
 replace HB := Zz.mk (qAq HB.out)
 refine qBx (n := 7) (S := fun w' => w'.cell? ⟨gb109, 0, none⟩ = some (.int .i64 t103) ∧ w'.cell? ⟨gb109, 1, none⟩ = some (.int .i64 t104) ∧ w'.cell? ⟨gb109, 2, none⟩ = some (.int .i64 t105) ∧ w'.cell? ⟨gb109, 3, none⟩ = some (.slice Ao16 t106.length co16)) (ds := []) (tb_ 7 0) (by kernel_rfl) rfl rfl (Z4_ BK109.out) (fun hHeld => ?_)
 generalize w17.drew = w18 at HO108 BK101 BK102 BK109 HB hHeld ⊢
 refine qFt (i := 0) (N := some 13) (v := ?_) (a' := ?_) (tb_ 7 1) rfl rfl (by kernel_rfl) (fun _ _ _ h => h) (Or.inl ⟨by rfl, ?_⟩) ?_ ?_
 rotate_left
 ·intro w'
  go_simp
  with_reducible rfl
 rotate_left
 ·simp only [Act.put, List.setIfInBounds_toArray, List.set_cons_zero, List.set_cons_succ, qA6, qBh]
  rfl
 refine qFt (i := 1) (N := some 14) (v := ?_) (a' := ?_) (tb_ 7 3) rfl rfl (by kernel_rfl) (fun _ _ _ h => h) (Or.inl ⟨by rfl, ?_⟩) ?_ ?_
 rotate_left
 ·intro w'
  go_simp
  with_reducible rfl
 rotate_left
 ·simp only [Act.put, List.setIfInBounds_toArray, List.set_cons_zero, List.set_cons_succ, qA6, qBh]
  rfl
 refine take_ (i := 2) (N := some 15) (v := ?_) (a' := ?_) (tb_ 7 7) rfl rfl (by kernel_rfl) (fun _ _ _ h => h) (Or.inl ⟨by rfl, ?_⟩) hHeld ?_ ?_
 rotate_left
 ·rintro w' ⟨s0, s1, s2, s3⟩
  go_simp
  with_reducible rfl
 rotate_left
 ·simp only [Act.put, List.setIfInBounds_toArray, List.set_cons_zero, List.set_cons_succ, qA6, qBh]
  rfl
 refine take_ (i := 3) (N := some 16) (v := ?_) (a' := ?_) (tb_ 7 15) rfl rfl (by kernel_rfl) (fun _ _ _ h => h) (Or.inl ⟨by rfl, ?_⟩) hHeld ?_ ?_
 rotate_left
 ·rintro w' ⟨s0, s1, s2, s3⟩
  go_simp
  with_reducible rfl
 rotate_left
 ·simp only [Act.put, List.setIfInBounds_toArray, List.set_cons_zero, List.set_cons_succ, qA6, qBh]
  rfl
 refine one_ (i := 4) (N := some 17) (tb_ 7 31) rfl rfl (by kernel_rfl) (by decide) (fun K hK => ?_)
 refine GO_ Try.func62 #[.agg #[.int .i64 t103, .int .i64 t104, .int .i64 t105, .slice Ao16 t106.length co16]] (h := ?_)
 with_reducible refine (z62.calls k t103 t104 t105 _ _ t106 t110 _ ?side1 ?side2 A5.out).mono ?_
 (case side1 => exact KC_ (Kd.R_reads' HO108.out).2.2)
 (case side2 => exact (Kd.R_reads' HO108.out).2.1)
 rintro e w19 ⟨v111, rfl, ho0, hb⟩
 refine ⟨_, rfl, ?_⟩
 have HO112 := Zz.mk (Kd.S_lower (Kd.S_new' ho0 (Kd.R_lt (KR_ HO108.out))) (bS_ (B3_ HB.out GE101.out GE102.out GE109.out)))
 replace HO108 := Zz.mk (Kd.R_below (KR_ HO108.out) hb)
 replace BK101 := Zz.mk (kb_ BK101.out hb)
 replace BK102 := Zz.mk (kb_ BK102.out hb)
 replace BK109 := Zz.mk (kb_ BK109.out hb)
 replace HB := Zz.mk (bT_ (B3_ HB.out GE101.out GE102.out GE109.out) hb)
 (try clear hb);(try clear hk);(try clear ho0)
 obtain ⟨Ao20, co20, eo20⟩ := Kd.S_slice HO112.out
 (first | subst eo20 | obtain ⟨rfl, rfl⟩ := sl_ eo20)
 refine hK.out _ _ (Z4_ BK109.out) (fun hHeld => ?_)
 clear hK K
 refine NM_ (N := (some 17)) (h := ?_)
 refine one_ (i := 5) (N := some 18) (tb_ 7 63) rfl rfl (by kernel_rfl) (by decide) (fun K hK => ?_)
 refine GO_ Try.func60 #[.int .i64 a2, .int .i64 t104, .slice Ao20 t110.length co20] (h := ?_)
 with_reducible refine (z60.calls k a2 t104 _ _ t110 t113 t114 t115 _ ?side1 ?side2 A6.out).mono ?_
 (case side1 => exact KC_ (Kd.S_reads' HO112.out).2.2)
 (case side2 => exact (Kd.S_reads' HO112.out).2.1)
 rintro e w21 ⟨v116, rfl, ho0, hb⟩
 refine ⟨_, rfl, ?_⟩
 have HO117 := Zz.mk (Kd.S_lower (Kd.S_new' (Kd.S_new' ho0 (Kd.R_lt (KR_ HO108.out))) (Kd.S_lt (KS_ HO112.out))) (bS_ (B3_ HB.out GE101.out GE102.out GE109.out)))
 replace HO108 := Zz.mk (Kd.R_below (KR_ HO108.out) hb)
 replace HO112 := Zz.mk (Kd.S_elder' (KS_ HO112.out) (Kd.S_base ho0) hb)
 replace BK101 := Zz.mk (kb_ BK101.out hb)
 replace BK102 := Zz.mk (kb_ BK102.out hb)
 replace BK109 := Zz.mk (kb_ BK109.out hb)
 replace HB := Zz.mk (bT_ (B3_ HB.out GE101.out GE102.out GE109.out) hb)
 (try clear hb);(try clear hk);(try clear ho0)
 obtain ⟨Ao24, co24, eo24⟩ := Kd.S_slice HO117.out
 (first | subst eo24 | obtain ⟨rfl, rfl⟩ := sl_ eo24)
 refine hK.out _ _ (Z4_ BK109.out) (fun hHeld => ?_)
 clear hK K
 refine NM_ (N := (some 18)) (h := ?_)
 refine one_ (i := 6) (N := none) (tb_ 7 127) rfl rfl (by kernel_rfl) (by decide) (fun K hK => ?_)
 have hs22 : w21.cell? ⟨gb102, 0, none⟩ = some (.int .i64 0) := (bC_ BK102.out 0).trans rfl
 have hfs22 := bF_ BK102.out 0
 have hns22_0 := NB101_102.out
 have hns22_2 := NB109_102.out
 have hms22_0 := NB102_101.out
 have hms22_2 := NB102_109.out
 have hs23 : w21.cell? ⟨gb102, 1, none⟩ = some (.int .i64 0) := (bC_ BK102.out 1).trans rfl
 have hfs23 := bF_ BK102.out 1
 have hns23_0 := NB101_102.out
 have hns23_2 := NB109_102.out
 have hms23_0 := NB102_101.out
 have hms23_2 := NB102_109.out
 have hs25 : w21.cell? ⟨gb102, 2, none⟩ = some (.slice none 0 0) := (bC_ BK102.out 2).trans rfl
 have hfs25 := bF_ BK102.out 2
 have hns25_0 := NB101_102.out
 have hns25_2 := NB109_102.out
 have hms25_0 := NB102_101.out
 have hms25_2 := NB102_109.out
 refine qD2 (w1 := ?_) (by rfl) rfl ?_ ?_
 rotate_left
 ·go_simp
  rfl
 refine hK.out _ _ ⟨((qA4 (p := ⟨gb102, _, none⟩) NB109_102.out _).trans (((qA4 (p := ⟨gb102, _, none⟩) NB109_102.out _).trans (((qA4 (p := ⟨gb102, _, none⟩) NB109_102.out _).trans (hHeld.1)))))), ((qA4 (p := ⟨gb102, _, none⟩) NB109_102.out _).trans (((qA4 (p := ⟨gb102, _, none⟩) NB109_102.out _).trans (((qA4 (p := ⟨gb102, _, none⟩) NB109_102.out _).trans (hHeld.2.1)))))), ((qA4 (p := ⟨gb102, _, none⟩) NB109_102.out _).trans (((qA4 (p := ⟨gb102, _, none⟩) NB109_102.out _).trans (((qA4 (p := ⟨gb102, _, none⟩) NB109_102.out _).trans (hHeld.2.2.1)))))), ((qA4 (p := ⟨gb102, _, none⟩) NB109_102.out _).trans (((qA4 (p := ⟨gb102, _, none⟩) NB109_102.out _).trans (((qA4 (p := ⟨gb102, _, none⟩) NB109_102.out _).trans (hHeld.2.2.2))))))⟩ (fun hHeld => ?_)
 clear hK K
 refine qCp (by kernel_rfl) ?_
 try go_wp2
 refine bodyPost_ret (results_cell_row rfl _ _ gb102 60 #[.int .i64 t113, .int .i64 t114, .slice Ao24 t115.length co24] (0, 0) _ rfl (by refine BW_ ?_; refine bP_ (cs := #[.int .i64 t113, .int .i64 t114, .slice none 0 0]) ?_ 2 _ rfl; refine BW_ ?_; refine bP_ (cs := #[.int .i64 t113, .int .i64 0, .slice none 0 0]) ?_ 1 _ rfl; refine BW_ ?_; refine bP_ (cs := #[.int .i64 0, .int .i64 0, .slice none 0 0]) ?_ 0 _ rfl; refine BW_ ?_; exact BK102.out) Try.underlying60 rfl (by kernel_rfl)) rfl ?_
 exact ⟨_, F_, by refine SW_ ?_; exact Kd.S_mono (Kd.S_far (p := ⟨gb102, 2, none⟩) (Kd.S_far (p := ⟨gb102, 1, none⟩) (Kd.S_far (p := ⟨gb102, 0, none⟩) (Kd.S_types HO117.out BK102.out (by decide)) (fun _ hk => hk.2) (.int .i64 t113)) (fun _ hk => hk.2) (.int .i64 t114)) (fun _ hk => hk.2) (.slice Ao24 t115.length co24)) (fun _ hk => trivial), B3_ HB.out GE101.out GE102.out GE109.out⟩
end Go.Proofs.Ytpgjfppbbbnclaa.B
