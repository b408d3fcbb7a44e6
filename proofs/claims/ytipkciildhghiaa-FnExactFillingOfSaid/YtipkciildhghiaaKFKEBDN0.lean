/- Printed proofs of functions of the program and of the reference, by a program of this work over the kit's printer. -/
import Derived.Test.YtipkciildhghiaaKBMHJIN0
import Derived.Test.YtipkciildhghiaaKHGNPLP0
import Derived.Test.YtipkciildhghiaaKOHDCMD0
import Derived.Test.YtipkciildhghiaaKW0
namespace Go.Proofs.Ytipkciildhghiaa.B
open Go.RowKit Go.Proofs.YtipkciildhghiaaW.PrintWords Go.Proofs.YtipkciildhghiaaW.PrintLast Go.Proofs.YtipkciildhghiaaW.PrintMore
attribute [local go_sem] qAi qAg qAl qAk qAe qAd qAh qAf
set_option linter.unusedVariables false
set_option linter.unusedSimpArgs false
def z151.l0 : Nat → List Int → List Int → Int → Int → Int → Int → List Int → Int → Int → Int → List Int → Int → Int → Int → List Int → Option (List Int × Bool)
 | 0, _, _, _, _, _, _, _, _, _, _, _, _, _, _, _ => none
 | k + 1, x9, x11, x12, x51000, x51001, x51002, x51003, x109000, x109001, x109002, x109003, x120000, x120001, x120002, x120003 => if x12 < (x9.length : Int) then (if 0 ≤ x12 then (if (rd x9 x12) = x51002 then (some (([] : List Int), false)) else (if 0 ≤ (wrap64 ((wrap64 (x12 * x109002)) + x51002)) then (if (wrap64 ((wrap64 (x12 * x109002)) + x51002)) < (x120003.length : Int) then (if 0 ≤ (rd x9 x12) then (if (rd x9 x12) < (x11.length : Int) then (z151.l0 k x9 (x11.set ((rd x9 x12) : Int).toNat (rd x120003 (wrap64 ((wrap64 (x12 * x109002)) + x51002)))) (wrap64 (x12 + 1)) x51000 x51001 x51002 x51003 x109000 x109001 x109002 x109003 x120000 x120001 x120002 x120003) else (none)) else (none)) else (none)) else (none))) else (none)) else (some (x11, true))
def z151.f (k : Nat) (a0_0 : Int) (a0_1 : Int) (a0_2 : Int) (l0_3 : List Int) (l1 : List Int) : Option (List Int × Bool) := (z180.f k a0_0 a0_1 a0_2 l0_3 a0_0 a0_1 1 l1).bind fun bt102 => ((z146.f k bt102.1 bt102.2.1 bt102.2.2.1 bt102.2.2.2).bind fun bt109 => (if 0 ≤ a0_2 then (if (a0_2 : Int).toNat ≤ 35184372088832 then (z151.l0 k bt109.2.2.2.2.1 (List.replicate (a0_2 : Int).toNat 0) 0 a0_0 a0_1 a0_2 l0_3 bt102.1 bt102.2.1 bt102.2.2.1 bt102.2.2.2 bt109.1 bt109.2.1 bt109.2.2.1 bt109.2.2.2.1) else (none)) else (none)))
def z151.T1 : Bool × List (List Nat × List Nat) := (true, [([], []), ([0], [0]), ([1], [1]), ([2], [2]), ([], []), ([4], [4]), ([5], [5]), ([6], [6]), ([], []), ([3, 7, 8], [3, 7, 8]), ([], []), ([10, 9, 0, 1, 2, 3, 4, 5, 6, 7, 8, 9, 10], [9, 10])])
def z151.B1 : List Nat := [0, 1, 3, 7, 0, 16, 48, 112, 0, 511, 0, 2047]
theorem z151.tab1 : rtab .any (qCc Try.f151 1) = z151.T1 := by kernel_rfl
theorem z151.bits1 : qBb z151.T1.2 z151.B1 = true := by kernel_rfl
def z151.T8 : Bool × List (List Nat × List Nat) := (true, [([], []), ([], []), ([0, 1], [0, 1]), ([2], [2]), ([], []), ([4], [4]), ([5], [5]), ([6], [6]), ([3, 7], [3, 7])])
def z151.B8 : List Nat := [0, 0, 3, 7, 0, 16, 48, 112, 255]
theorem z151.tab8 : rtab .any (qCc Try.f151 8) = z151.T8 := by kernel_rfl
theorem z151.bits8 : qBb z151.T8.2 z151.B8 = true := by kernel_rfl
def z151.T10 : Bool × List (List Nat × List Nat) := (true, [([], []), ([], []), ([], []), ([1, 2], [1, 2]), ([3], [3]), ([], []), ([5], [5]), ([], []), ([], []), ([8], [8]), ([7, 9], [7, 9]), ([], []), ([11], [11]), ([12], [12]), ([13], [13]), ([10, 14], [10, 14]), ([6, 15], [6, 15]), ([16], [16]), ([0, 4, 0, 1, 2, 3, 4, 5, 6, 7, 8, 9, 10, 11, 12, 13, 14, 15, 16, 17], [0, 4]), ([18, 17, 0, 1, 2, 3, 4, 5, 6, 7, 8, 9, 10, 11, 12, 13, 14, 15, 16, 17], [17, 18])])
def z151.B10 : List Nat := [0, 0, 0, 6, 14, 0, 32, 0, 0, 256, 896, 0, 2048, 6144, 14336, 32640, 65504, 131040, 262143, 524287]
theorem z151.tab10 : rtab .any (qCc Try.f151 10) = z151.T10 := by kernel_rfl
theorem z151.bits10 : qBb z151.T10.2 z151.B10 = true := by kernel_rfl
set_option maxHeartbeats 8000000 in
set_option maxRecDepth 100000 in
theorem z151.calls (k : Nat) (gp0 : Nat) (a0_0 : Int) (a0_1 : Int) (a0_2 : Int) (A0_3 : Option Addr) (c0_3 : Nat) (l0_3 : List Int) (A1 : Option Addr) (c1 : Nat) (l1 : List Int) (r1 : List Int) (r2 : Bool) (w : World) (hbp0 : w.heap[gp0]? = some (.cells #[.int .i64 a0_0, .int .i64 a0_1, .int .i64 a0_2, .slice A0_3 l0_3.length c0_3] 48 (0, 0))) (hr0_3 : Kd.C (Kd.int .i64) w A0_3 l0_3.length l0_3) (hc0_3 : l0_3.length ≤ c0_3) (hr1 : Kd.C (Kd.int .i64) w A1 l1.length l1) (hc1 : l1.length ≤ c1) (h : z151.f k a0_0 a0_1 a0_2 l0_3 l1 = some (r1, r2)) :
  Calls Try.prog 151 #[.pointer (some ⟨gp0, 0, none⟩), .slice A1 l1.length c1] w fun e w' => ∃ v0_ : Value, e = .returned (.tuple #[v0_, .bool r2]) ∧ Kd.R (Kd.int .i64) 2 w' w.heap.size (fun _ => True) v0_ r1 ∧ Below w.heap.size w w' := by
 have hu48 := Try.underlying48
 have HR0_3 := Zz.mk hr0_3
 have HC0_3 := Zz.mk hc0_3
 clear hr0_3 hc0_3
 have HR1 := Zz.mk hr1
 have HC1 := Zz.mk hc1
 clear hr1 hc1
 have BK50 := Zz.mk hbp0
 clear hbp0
 have HB := Zz.mk (Below.refl w.heap.size w)
 have H : ((z180.f k a0_0 a0_1 a0_2 l0_3 a0_0 a0_1 1 l1).bind fun bt102 => ((z146.f k bt102.1 bt102.2.1 bt102.2.2.1 bt102.2.2.2).bind fun bt109 => (if 0 ≤ a0_2 then (if (a0_2 : Int).toNat ≤ 35184372088832 then (z151.l0 k bt109.2.2.2.2.1 (List.replicate (a0_2 : Int).toNat 0) 0 a0_0 a0_1 a0_2 l0_3 bt102.1 bt102.2.1 bt102.2.2.1 bt102.2.2.2 bt109.1 bt109.2.1 bt109.2.2.1 bt109.2.2.2.1) else (none)) else (none)))) = some (r1, r2) := h
 clear h
 replace H := OB_ H
 obtain ⟨⟨t102, t103, t104, t105⟩, A30, H⟩ := H
 replace H : ((z146.f k t102 t103 t104 t105).bind fun bt109 => (if 0 ≤ a0_2 then (if (a0_2 : Int).toNat ≤ 35184372088832 then (z151.l0 k bt109.2.2.2.2.1 (List.replicate (a0_2 : Int).toNat 0) 0 a0_0 a0_1 a0_2 l0_3 t102 t103 t104 t105 bt109.1 bt109.2.1 bt109.2.2.1 bt109.2.2.2.1) else (none)) else (none))) = some (r1, r2) := H
 have A3 := Zz.mk A30
 clear A30
 replace H := OB_ H
 obtain ⟨⟨t109, t110, t111, t112, t115, t118⟩, A40, H⟩ := H
 replace H : (if 0 ≤ a0_2 then (if (a0_2 : Int).toNat ≤ 35184372088832 then (z151.l0 k t115 (List.replicate (a0_2 : Int).toNat 0) 0 a0_0 a0_1 a0_2 l0_3 t102 t103 t104 t105 t109 t110 t111 t112) else (none)) else (none)) = some (r1, r2) := H
 have A4 := Zz.mk A40
 clear A40
 have c5 := O1_ H
 replace H := O2_ H
 have c5b0 := eq_true c5
 have c5b1 : decide (0 ≤ a0_2) = true := decide_eq_true c5
 clear c5
 have c6 := O1_ H
 replace H := O2_ H
 have c6b0 := eq_true c6
 have c6b1 : decide ((a0_2 : Int).toNat ≤ 35184372088832) = true := decide_eq_true c6
 clear c6
 obtain ⟨y120, hy120⟩ : ∃ y_ : List Int, y_ = (List.replicate (a0_2 : Int).toNat 0) := ⟨_, rfl⟩
 replace H : (z151.l0 k t115 y120 0 a0_0 a0_1 a0_2 l0_3 t102 t103 t104 t105 t109 t110 t111 t112) = some (r1, r2) := Y_ hy120 H
 have Ny120 := Zz.mk hy120
 clear hy120
 have H' := Zz.mk H
 clear H
 go_enter Try.func151, Try.ntmps151
 try go_wp2
 replace BK50 := Zz.mk (bD_ BK50.out)
 replace HB := Zz.mk (qAn HB.out)
 refine qBf (n := 12) (S := fun w' => w'.cell? ⟨gp0, 0, none⟩ = some (.int .i64 a0_0) ∧ w'.cell? ⟨gp0, 1, none⟩ = some (.int .i64 a0_1) ∧ w'.cell? ⟨gp0, 2, none⟩ = some (.int .i64 a0_2) ∧ w'.cell? ⟨gp0, 3, none⟩ = some (.slice A0_3 l0_3.length c0_3)) (ds := []) (tb_ 12 0) (by kernel_rfl) rfl rfl ⟨(bC_ BK50.out 0).trans rfl, (bC_ BK50.out 1).trans rfl, (bC_ BK50.out 2).trans rfl, (bC_ BK50.out 3).trans rfl⟩ (fun hHeld => ?_); refine qA7 z151.tab1 z151.bits1 (fun HT_ HW_ => ?_)
 generalize w.drew = w7 at BK50 HB hHeld ⊢
 refine PX_ 0 13 (tb_ 12 1) HT_ rfl rfl ?_
 refine PX_ 1 14 (tb_ 12 3) HT_ rfl rfl ?_
 refine PX_ 2 15 (tb_ 12 7) HT_ rfl rfl ?_
 refine PX_ 4 17 (tb_ 12 23) HT_ rfl rfl ?_
 refine PX_ 5 18 (tb_ 12 55) HT_ rfl rfl ?_
 refine PX_ 6 19 (tb_ 12 119) HT_ rfl rfl ?_
 refine PX_ 8 21 (tb_ 12 375) HT_ rfl rfl ?_
 refine TV_ (i := 3) (N := some 16) (tb_ 12 383) HT_ HW_ rfl rfl hHeld (by rintro w' ⟨s0, s1, s2, s3⟩; go_simp; with_reducible rfl) (h := ?_)
 refine TV_ (i := 7) (N := some 20) (tb_ 12 511) HT_ HW_ rfl rfl hHeld (by rintro w' ⟨s0, s1, s2, s3⟩; go_simp; with_reducible rfl) (h := ?_)
 refine PX_ 9 22 (tb_ 12 1023) HT_ rfl rfl ?_
 refine one_ (i := 10) (N := some 6) (tb_ 12 2047) rfl rfl (qA8 HT_.out (by kernel_rfl)) (by decide) (fun K hK => ?_)
 refine qD8 ?hg (N := 6) ?hd (cs := #[.int .i64 0, .int .i64 0, .int .i64 0, .slice none 0 0]) (t := 48) ?hr ?_; (case hd => rfl); (case hg => rfl); (case hr => first | (go_simp; done) | (go_simp; rfl))
 intro gb101 hg w8 hbox hb
 have BK101 := Zz.mk (hbox)
 have GW101 := Zz.mk ((by rw [hg]; exact (bS_ (B_ HB.out)) : w.heap.size ≤ gb101))
 have GE101 := GW101
 have NB50_101 := Zz.mk ((by rw [hg]; exact Nat.ne_of_lt (qA2 (g := gp0) (o := .cells #[.int .i64 a0_0, .int .i64 a0_1, .int .i64 a0_2, .slice A0_3 l0_3.length c0_3] 48 (0, 0)) (KB_ BK50.out)) : gp0 ≠ gb101))
 have NB101_50 := Zz.mk NB50_101.out.symm
 replace BK50 := Zz.mk (bB_ (g := gp0) (o := .cells #[.int .i64 a0_0, .int .i64 a0_1, .int .i64 a0_2, .slice A0_3 l0_3.length c0_3] 48 (0, 0)) (KB_ BK50.out) hb)
 replace HB := Zz.mk (bT_ (B_ HB.out) hb)
 clear hb hbox hg
 refine hK.out _ _ ⟨(bC_ BK50.out 0).trans rfl, (bC_ BK50.out 1).trans rfl, (bC_ BK50.out 2).trans rfl, (bC_ BK50.out 3).trans rfl⟩ (fun hHeld => ?_)
 clear hK K
 refine NM_ (N := (some 6)) (h := ?_)
 refine one_ (i := 11) (N := none) (tb_ 12 4095) rfl rfl (qA8 HT_.out (by kernel_rfl)) (by decide) (fun K hK => ?_)
 have hs9 : w8.cell? ⟨gb101, 0, none⟩ = some (.int .i64 0) := (bC_ BK101.out 0).trans rfl
 have hfs9 := bF_ BK101.out 0
 have hns9_0 := NB50_101.out
 have hms9_0 := NB101_50.out
 have hs10 : w8.cell? ⟨gb101, 1, none⟩ = some (.int .i64 0) := (bC_ BK101.out 1).trans rfl
 have hfs10 := bF_ BK101.out 1
 have hns10_0 := NB50_101.out
 have hms10_0 := NB101_50.out
 have hs11 : w8.cell? ⟨gb101, 2, none⟩ = some (.int .i64 0) := (bC_ BK101.out 2).trans rfl
 have hfs11 := bF_ BK101.out 2
 have hns11_0 := NB50_101.out
 have hms11_0 := NB101_50.out
 have hs12 : w8.cell? ⟨gb101, 3, none⟩ = some (.slice none 0 0) := (bC_ BK101.out 3).trans rfl
 have hfs12 := bF_ BK101.out 3
 have hns12_0 := NB50_101.out
 have hms12_0 := NB101_50.out
 refine qCr (w1 := ?_) (by rfl) rfl ?_ ?_
 rotate_left
 ·go_simp
  rfl
 refine hK.out _ _ ⟨((qAu (p := ⟨gb101, _, none⟩) NB50_101.out _).trans (((qAu (p := ⟨gb101, _, none⟩) NB50_101.out _).trans (((qAu (p := ⟨gb101, _, none⟩) NB50_101.out _).trans (((qAu (p := ⟨gb101, _, none⟩) NB50_101.out _).trans (hHeld.1)))))))), ((qAu (p := ⟨gb101, _, none⟩) NB50_101.out _).trans (((qAu (p := ⟨gb101, _, none⟩) NB50_101.out _).trans (((qAu (p := ⟨gb101, _, none⟩) NB50_101.out _).trans (((qAu (p := ⟨gb101, _, none⟩) NB50_101.out _).trans (hHeld.2.1)))))))), ((qAu (p := ⟨gb101, _, none⟩) NB50_101.out _).trans (((qAu (p := ⟨gb101, _, none⟩) NB50_101.out _).trans (((qAu (p := ⟨gb101, _, none⟩) NB50_101.out _).trans (((qAu (p := ⟨gb101, _, none⟩) NB50_101.out _).trans (hHeld.2.2.1)))))))), ((qAu (p := ⟨gb101, _, none⟩) NB50_101.out _).trans (((qAu (p := ⟨gb101, _, none⟩) NB50_101.out _).trans (((qAu (p := ⟨gb101, _, none⟩) NB50_101.out _).trans (((qAu (p := ⟨gb101, _, none⟩) NB50_101.out _).trans (hHeld.2.2.2))))))))⟩ (fun hHeld => ?_)
 clear hK K
 refine qBy (qBe HT_.out (by kernel_rfl)) ?_
 try go_wp2_with (first | ((with_reducible refine gC_ (f := 180) rfl ?_); refine GL_ (some 24) rfl rfl Try.func180 #[.pointer (some ⟨gp0, 0, none⟩), .pointer (some ⟨gb101, 0, none⟩)] rfl (h := ?_); (with_reducible refine (z180.calls k gp0 a0_0 a0_1 a0_2 A0_3 c0_3 l0_3 gb101 a0_0 a0_1 1 A1 c1 l1 t102 t103 t104 t105 _ ?side1 ?side2 ?side3 ?side4 ?side5 ?side6 A3.out).mono ?_); (case side1 => refine BW_ ?_; refine bR_ ?_ NB50_101.out _; refine BW_ ?_; refine bR_ ?_ NB50_101.out _; refine BW_ ?_; refine bR_ ?_ NB50_101.out _; refine BW_ ?_; refine bR_ ?_ NB50_101.out _; refine BW_ ?_; exact BK50.out); (case side2 => refine BW_ ?_; refine bP_ (cs := #[.int .i64 a0_0, .int .i64 a0_1, .int .i64 1, .slice none 0 0]) ?_ 3 _ rfl; refine BW_ ?_; refine bP_ (cs := #[.int .i64 a0_0, .int .i64 a0_1, .int .i64 0, .slice none 0 0]) ?_ 2 _ rfl; refine BW_ ?_; refine bP_ (cs := #[.int .i64 a0_0, .int .i64 0, .int .i64 0, .slice none 0 0]) ?_ 1 _ rfl; refine BW_ ?_; refine bP_ (cs := #[.int .i64 0, .int .i64 0, .int .i64 0, .slice none 0 0]) ?_ 0 _ rfl; refine BW_ ?_; exact BK101.out); (case side3 => exact Kd.C_below HR0_3.out (B1_ HB.out GE101.out)); (case side4 => exact HC0_3.out); (case side5 => exact Kd.C_below HR1.out (B1_ HB.out GE101.out)); (case side6 => exact HC1.out); rintro e w13 ⟨v106, rfl, ho0, hb⟩; refine ⟨_, rfl, ?_⟩; have HO107 := Zz.mk (Kd.R_lower ho0 (bS_ (B1_ HB.out GE101.out))); replace BK50 := Zz.mk (bB_ (g := gp0) (o := .cells #[.int .i64 a0_0, .int .i64 a0_1, .int .i64 a0_2, .slice A0_3 l0_3.length c0_3] 48 (0, 0)) (by refine BW_ ?_; refine bR_ ?_ NB50_101.out _; refine BW_ ?_; refine bR_ ?_ NB50_101.out _; refine BW_ ?_; refine bR_ ?_ NB50_101.out _; refine BW_ ?_; refine bR_ ?_ NB50_101.out _; refine BW_ ?_; exact BK50.out) hb); replace BK101 := Zz.mk (bB_ (g := gb101) (o := .cells #[.int .i64 a0_0, .int .i64 a0_1, .int .i64 1, .slice A1 l1.length c1] 48 (0, 0)) (by refine BW_ ?_; refine bP_ (cs := #[.int .i64 a0_0, .int .i64 a0_1, .int .i64 1, .slice none 0 0]) ?_ 3 _ rfl; refine BW_ ?_; refine bP_ (cs := #[.int .i64 a0_0, .int .i64 a0_1, .int .i64 0, .slice none 0 0]) ?_ 2 _ rfl; refine BW_ ?_; refine bP_ (cs := #[.int .i64 a0_0, .int .i64 0, .int .i64 0, .slice none 0 0]) ?_ 1 _ rfl; refine BW_ ?_; refine bP_ (cs := #[.int .i64 0, .int .i64 0, .int .i64 0, .slice none 0 0]) ?_ 0 _ rfl; refine BW_ ?_; exact BK101.out) hb); replace HB := Zz.mk (bT_ (B1_ HB.out GE101.out) hb); (try clear hb); (try clear hb2); (try clear hk); (try clear hi); (try clear ho0)) | ((with_reducible refine qAb (N := 7) rfl ?_); refine qAc ?hg (N := 7) ?hd (cs := #[.int .i64 0, .int .i64 0, .int .i64 0, .slice none 0 0]) (t := 48) ?hr ?_; (case hd => rfl); (case hg => rfl); (case hr => first | (go_simp; done) | (go_simp; rfl)); intro gb108 hg w14 hbox hb; have BK108 := Zz.mk (hbox); have GW108 := Zz.mk ((by rw [hg]; exact (bS_ (B1_ HB.out GE101.out)) : w.heap.size ≤ gb108)); have GE108 := GW108; have NB50_108 := Zz.mk ((by rw [hg]; exact Nat.ne_of_lt (qA2 (g := gp0) (o := .cells #[.int .i64 a0_0, .int .i64 a0_1, .int .i64 a0_2, .slice A0_3 l0_3.length c0_3] 48 (0, 0)) (KB_ BK50.out)) : gp0 ≠ gb108)); have NB108_50 := Zz.mk NB50_108.out.symm; have NB101_108 := Zz.mk ((by rw [hg]; exact Nat.ne_of_lt (qA2 (g := gb101) (o := .cells #[.int .i64 a0_0, .int .i64 a0_1, .int .i64 1, .slice A1 l1.length c1] 48 (0, 0)) (KB_ BK101.out)) : gb101 ≠ gb108)); have NB108_101 := Zz.mk NB101_108.out.symm; replace HO107 := Zz.mk (Kd.R_below (KR_ HO107.out) hb); replace BK50 := Zz.mk (bB_ (g := gp0) (o := .cells #[.int .i64 a0_0, .int .i64 a0_1, .int .i64 a0_2, .slice A0_3 l0_3.length c0_3] 48 (0, 0)) (KB_ BK50.out) hb); replace BK101 := Zz.mk (bB_ (g := gb101) (o := .cells #[.int .i64 a0_0, .int .i64 a0_1, .int .i64 1, .slice A1 l1.length c1] 48 (0, 0)) (KB_ BK101.out) hb); replace HB := Zz.mk (bT_ (B1_ HB.out GE101.out) hb); clear hb hbox hg; have hnb15 := NB108_50.out; have hnc15 := NB50_108.out; have hnb16 := NB108_101.out; have hnc16 := NB101_108.out; obtain ⟨hcz17_0, hcz17_1, hcz17_2, hcz17_3, hfz17_0, hfz17_1, hfz17_2, hfz17_3⟩ := Z4f_ BK108.out; obtain ⟨Ao18, co18, eo18⟩ := Kd.R_slice HO107.out; subst eo18) | ((with_reducible refine gC_ (f := 146) rfl ?_); refine GL_ (some 26) rfl rfl Try.func146 #[.pointer (some ⟨gb108, 0, none⟩)] rfl (h := ?_); (with_reducible refine (z146.calls k gb108 t102 t103 t104 Ao18 co18 t105 t109 t110 t111 t112 t115 t118 _ ?side1 ?side2 ?side3 A4.out).mono ?_); (case side1 => refine BW_ ?_; refine bP_ (cs := #[.int .i64 t102, .int .i64 t103, .int .i64 t104, .slice none 0 0]) ?_ 3 _ rfl; refine BW_ ?_; refine bP_ (cs := #[.int .i64 t102, .int .i64 t103, .int .i64 0, .slice none 0 0]) ?_ 2 _ rfl; refine BW_ ?_; refine bP_ (cs := #[.int .i64 t102, .int .i64 0, .int .i64 0, .slice none 0 0]) ?_ 1 _ rfl; refine BW_ ?_; refine bP_ (cs := #[.int .i64 0, .int .i64 0, .int .i64 0, .slice none 0 0]) ?_ 0 _ rfl; refine BW_ ?_; exact BK108.out); (case side2 => refine (Kd.R_reads' (e := 2) (base := w.heap.size) (ok := fun k_ => True) (n := t105.length) (c := co18) ?_).2.2; exact (by refine RW_ ?_; exact (Kd.R_mono (Kd.R_far (p := ⟨gb108, 3, none⟩) (Kd.R_far (p := ⟨gb108, 2, none⟩) (Kd.R_far (p := ⟨gb108, 1, none⟩) (Kd.R_far (p := ⟨gb108, 0, none⟩) (Kd.R_types HO107.out BK108.out (by decide)) (fun _ hk => hk.2) (.int .i64 t102)) (fun _ hk => hk.2) (.int .i64 t103)) (fun _ hk => hk.2) (.int .i64 t104)) (fun _ hk => hk.2) (.slice Ao18 t105.length co18)) (fun _ h_ => h_.1)))); (case side3 => exact (Kd.R_reads' HO107.out).2.1); rintro e w19 ⟨v113, v116, rfl, ho0, ho1, hb⟩; refine ⟨_, rfl, ?_⟩; have HO114 := Zz.mk (Kd.R_lower (Kd.R_new' ho0 (Kd.R_lt (by refine RW_ ?_; exact (Kd.R_mono (Kd.R_far (p := ⟨gb108, 3, none⟩) (Kd.R_far (p := ⟨gb108, 2, none⟩) (Kd.R_far (p := ⟨gb108, 1, none⟩) (Kd.R_far (p := ⟨gb108, 0, none⟩) (Kd.R_types HO107.out BK108.out (by decide)) (fun _ hk => hk.2) (.int .i64 t102)) (fun _ hk => hk.2) (.int .i64 t103)) (fun _ hk => hk.2) (.int .i64 t104)) (fun _ hk => hk.2) (.slice Ao18 t105.length co18)) (fun _ h_ => h_.1))))) (bS_ (B2_ HB.out GE101.out GE108.out))); have HO117 := Zz.mk (Kd.R_lower (Kd.R_new' ho1 (Kd.R_lt (by refine RW_ ?_; exact (Kd.R_mono (Kd.R_far (p := ⟨gb108, 3, none⟩) (Kd.R_far (p := ⟨gb108, 2, none⟩) (Kd.R_far (p := ⟨gb108, 1, none⟩) (Kd.R_far (p := ⟨gb108, 0, none⟩) (Kd.R_types HO107.out BK108.out (by decide)) (fun _ hk => hk.2) (.int .i64 t102)) (fun _ hk => hk.2) (.int .i64 t103)) (fun _ hk => hk.2) (.int .i64 t104)) (fun _ hk => hk.2) (.slice Ao18 t105.length co18)) (fun _ h_ => h_.1))))) (bS_ (B2_ HB.out GE101.out GE108.out))); replace HO107 := Zz.mk (Kd.R_mono (Kd.R_told (Kd.R_told (Kd.R_old (by refine RW_ ?_; exact (Kd.R_mono (Kd.R_far (p := ⟨gb108, 3, none⟩) (Kd.R_far (p := ⟨gb108, 2, none⟩) (Kd.R_far (p := ⟨gb108, 1, none⟩) (Kd.R_far (p := ⟨gb108, 0, none⟩) (Kd.R_types HO107.out BK108.out (by decide)) (fun _ hk => hk.2) (.int .i64 t102)) (fun _ hk => hk.2) (.int .i64 t103)) (fun _ hk => hk.2) (.int .i64 t104)) (fun _ hk => hk.2) (.slice Ao18 t105.length co18)) (fun _ h_ => h_.1))) hb) (Kd.R_base ho0)) (Kd.R_base ho1)) (fun _ h_ => h_.1)); replace BK50 := Zz.mk (bB_ (g := gp0) (o := .cells #[.int .i64 a0_0, .int .i64 a0_1, .int .i64 a0_2, .slice A0_3 l0_3.length c0_3] 48 (0, 0)) (by refine BW_ ?_; refine bR_ ?_ NB50_108.out _; refine BW_ ?_; refine bR_ ?_ NB50_108.out _; refine BW_ ?_; refine bR_ ?_ NB50_108.out _; refine BW_ ?_; refine bR_ ?_ NB50_108.out _; refine BW_ ?_; exact BK50.out) hb); replace BK101 := Zz.mk (bB_ (g := gb101) (o := .cells #[.int .i64 a0_0, .int .i64 a0_1, .int .i64 1, .slice A1 l1.length c1] 48 (0, 0)) (by refine BW_ ?_; refine bR_ ?_ NB101_108.out _; refine BW_ ?_; refine bR_ ?_ NB101_108.out _; refine BW_ ?_; refine bR_ ?_ NB101_108.out _; refine BW_ ?_; refine bR_ ?_ NB101_108.out _; refine BW_ ?_; exact BK101.out) hb); replace BK108 := Zz.mk (bB_ (g := gb108) (o := .cells #[.int .i64 t102, .int .i64 t103, .int .i64 t104, .slice Ao18 t105.length co18] 48 (0, 0)) (by refine BW_ ?_; refine bP_ (cs := #[.int .i64 t102, .int .i64 t103, .int .i64 t104, .slice none 0 0]) ?_ 3 _ rfl; refine BW_ ?_; refine bP_ (cs := #[.int .i64 t102, .int .i64 t103, .int .i64 0, .slice none 0 0]) ?_ 2 _ rfl; refine BW_ ?_; refine bP_ (cs := #[.int .i64 t102, .int .i64 0, .int .i64 0, .slice none 0 0]) ?_ 1 _ rfl; refine BW_ ?_; refine bP_ (cs := #[.int .i64 0, .int .i64 0, .int .i64 0, .slice none 0 0]) ?_ 0 _ rfl; refine BW_ ?_; exact BK108.out) hb); replace HB := Zz.mk (bT_ (B2_ HB.out GE101.out GE108.out) hb); (try clear hb); (try clear hb2); (try clear hk); (try clear hi); (try clear ho0); (try clear ho1)) | ((with_reducible refine qAb (N := 8) rfl ?_); refine qAc ?hg (N := 8) ?hd (cs := #[.int .i64 0, .int .i64 0, .int .i64 0, .slice none 0 0]) (t := 48) ?hr ?_; (case hd => rfl); (case hg => rfl); (case hr => first | (go_simp; done) | (go_simp; rfl)); intro gb119 hg w20 hbox hb; have BK119 := Zz.mk (hbox); have GW119 := Zz.mk ((by rw [hg]; exact (bS_ (B2_ HB.out GE101.out GE108.out)) : w.heap.size ≤ gb119)); have GE119 := GW119; have NB50_119 := Zz.mk ((by rw [hg]; exact Nat.ne_of_lt (qA2 (g := gp0) (o := .cells #[.int .i64 a0_0, .int .i64 a0_1, .int .i64 a0_2, .slice A0_3 l0_3.length c0_3] 48 (0, 0)) (KB_ BK50.out)) : gp0 ≠ gb119)); have NB119_50 := Zz.mk NB50_119.out.symm; have NB101_119 := Zz.mk ((by rw [hg]; exact Nat.ne_of_lt (qA2 (g := gb101) (o := .cells #[.int .i64 a0_0, .int .i64 a0_1, .int .i64 1, .slice A1 l1.length c1] 48 (0, 0)) (KB_ BK101.out)) : gb101 ≠ gb119)); have NB119_101 := Zz.mk NB101_119.out.symm; have NB108_119 := Zz.mk ((by rw [hg]; exact Nat.ne_of_lt (qA2 (g := gb108) (o := .cells #[.int .i64 t102, .int .i64 t103, .int .i64 t104, .slice Ao18 t105.length co18] 48 (0, 0)) (KB_ BK108.out)) : gb108 ≠ gb119)); have NB119_108 := Zz.mk NB108_119.out.symm; replace HO107 := Zz.mk (Kd.R_below (KR_ HO107.out) hb); replace HO114 := Zz.mk (Kd.R_below (KR_ HO114.out) hb); replace HO117 := Zz.mk (Kd.R_below (KR_ HO117.out) hb); replace BK50 := Zz.mk (bB_ (g := gp0) (o := .cells #[.int .i64 a0_0, .int .i64 a0_1, .int .i64 a0_2, .slice A0_3 l0_3.length c0_3] 48 (0, 0)) (KB_ BK50.out) hb); replace BK101 := Zz.mk (bB_ (g := gb101) (o := .cells #[.int .i64 a0_0, .int .i64 a0_1, .int .i64 1, .slice A1 l1.length c1] 48 (0, 0)) (KB_ BK101.out) hb); replace BK108 := Zz.mk (bB_ (g := gb108) (o := .cells #[.int .i64 t102, .int .i64 t103, .int .i64 t104, .slice Ao18 t105.length co18] 48 (0, 0)) (KB_ BK108.out) hb); replace HB := Zz.mk (bT_ (B2_ HB.out GE101.out GE108.out) hb); clear hb hbox hg; have hnb21 := NB119_50.out; have hnc21 := NB50_119.out; have hnb22 := NB119_101.out; have hnc22 := NB101_119.out; have hnb23 := NB119_108.out; have hnc23 := NB108_119.out; obtain ⟨hcz24_0, hcz24_1, hcz24_2, hcz24_3, hfz24_0, hfz24_1, hfz24_2, hfz24_3⟩ := Z4f_ BK119.out; obtain ⟨Ao25, co25, eo25⟩ := Kd.R_slice HO114.out; subst eo25; have hnb26 := NB50_101.out; have hnc26 := NB101_50.out; obtain ⟨hcz27_0, hcz27_1, hcz27_2, hcz27_3, hfz27_0, hfz27_1, hfz27_2, hfz27_3⟩ := Z4f_ BK50.out) | ((with_reducible refine qAb (N := 34) rfl ?_); refine Kd.R_make (Kd.int .i64) _ 2 rfl (N := 34) rfl 26 _ _ rfl a0_2 rfl rfl Try.underlying26 (.int .i64 0) 8 qBj rfl (by decide) (by omega) 0 (ok := fun _ => True) (okp := fun _ => True) rfl (fun _ hk => hk) trivial (D_) (Nat.le_trans (Nat.mul_le_mul_right _ (D_ : a0_2.toNat ≤ 35184372088832)) (by omega)) (Below.refl _ _) (Nat.le_refl _) ?_; intro v121 w28 ho29 hb hg_ hnew_; clear hg_ hnew_; (first | rw [← Ny120.out] at ho29 | (simp only [Int.reduceToNat] at ho29; rw [← Ny120.out] at ho29)); have HO122 := Zz.mk (Kd.R_lower (Kd.R_new' (Kd.R_new' (Kd.R_new' ho29 (Kd.R_lt (by refine RW_ ?_; exact (Kd.R_mono (Kd.R_far (p := ⟨gb119, 3, none⟩) (Kd.R_far (p := ⟨gb119, 2, none⟩) (Kd.R_far (p := ⟨gb119, 1, none⟩) (Kd.R_far (p := ⟨gb119, 0, none⟩) (Kd.R_types HO107.out BK119.out (by decide)) (fun _ hk => hk.2) (.int .i64 t109)) (fun _ hk => hk.2) (.int .i64 t110)) (fun _ hk => hk.2) (.int .i64 t111)) (fun _ hk => hk.2) (.slice Ao25 t112.length co25)) (fun _ h_ => h_.1))))) (Kd.R_lt (by refine RW_ ?_; exact (Kd.R_mono (Kd.R_far (p := ⟨gb119, 3, none⟩) (Kd.R_far (p := ⟨gb119, 2, none⟩) (Kd.R_far (p := ⟨gb119, 1, none⟩) (Kd.R_far (p := ⟨gb119, 0, none⟩) (Kd.R_types HO114.out BK119.out (by decide)) (fun _ hk => hk.2) (.int .i64 t109)) (fun _ hk => hk.2) (.int .i64 t110)) (fun _ hk => hk.2) (.int .i64 t111)) (fun _ hk => hk.2) (.slice Ao25 t112.length co25)) (fun _ h_ => h_.1))))) (Kd.R_lt (by refine RW_ ?_; exact (Kd.R_mono (Kd.R_far (p := ⟨gb119, 3, none⟩) (Kd.R_far (p := ⟨gb119, 2, none⟩) (Kd.R_far (p := ⟨gb119, 1, none⟩) (Kd.R_far (p := ⟨gb119, 0, none⟩) (Kd.R_types HO117.out BK119.out (by decide)) (fun _ hk => hk.2) (.int .i64 t109)) (fun _ hk => hk.2) (.int .i64 t110)) (fun _ hk => hk.2) (.int .i64 t111)) (fun _ hk => hk.2) (.slice Ao25 t112.length co25)) (fun _ h_ => h_.1))))) (bS_ (B3_ HB.out GE101.out GE108.out GE119.out))); replace HO107 := Zz.mk (Kd.R_elder' (by refine RW_ ?_; exact (Kd.R_mono (Kd.R_far (p := ⟨gb119, 3, none⟩) (Kd.R_far (p := ⟨gb119, 2, none⟩) (Kd.R_far (p := ⟨gb119, 1, none⟩) (Kd.R_far (p := ⟨gb119, 0, none⟩) (Kd.R_types HO107.out BK119.out (by decide)) (fun _ hk => hk.2) (.int .i64 t109)) (fun _ hk => hk.2) (.int .i64 t110)) (fun _ hk => hk.2) (.int .i64 t111)) (fun _ hk => hk.2) (.slice Ao25 t112.length co25)) (fun _ h_ => h_.1))) (Kd.R_base ho29) hb); replace HO114 := Zz.mk (Kd.R_elder' (by refine RW_ ?_; exact (Kd.R_mono (Kd.R_far (p := ⟨gb119, 3, none⟩) (Kd.R_far (p := ⟨gb119, 2, none⟩) (Kd.R_far (p := ⟨gb119, 1, none⟩) (Kd.R_far (p := ⟨gb119, 0, none⟩) (Kd.R_types HO114.out BK119.out (by decide)) (fun _ hk => hk.2) (.int .i64 t109)) (fun _ hk => hk.2) (.int .i64 t110)) (fun _ hk => hk.2) (.int .i64 t111)) (fun _ hk => hk.2) (.slice Ao25 t112.length co25)) (fun _ h_ => h_.1))) (Kd.R_base ho29) hb); replace HO117 := Zz.mk (Kd.R_elder' (by refine RW_ ?_; exact (Kd.R_mono (Kd.R_far (p := ⟨gb119, 3, none⟩) (Kd.R_far (p := ⟨gb119, 2, none⟩) (Kd.R_far (p := ⟨gb119, 1, none⟩) (Kd.R_far (p := ⟨gb119, 0, none⟩) (Kd.R_types HO117.out BK119.out (by decide)) (fun _ hk => hk.2) (.int .i64 t109)) (fun _ hk => hk.2) (.int .i64 t110)) (fun _ hk => hk.2) (.int .i64 t111)) (fun _ hk => hk.2) (.slice Ao25 t112.length co25)) (fun _ h_ => h_.1))) (Kd.R_base ho29) hb); replace BK50 := Zz.mk (bB_ (g := gp0) (o := .cells #[.int .i64 a0_0, .int .i64 a0_1, .int .i64 a0_2, .slice A0_3 l0_3.length c0_3] 48 (0, 0)) (by refine BW_ ?_; refine bR_ ?_ NB50_119.out _; refine BW_ ?_; refine bR_ ?_ NB50_119.out _; refine BW_ ?_; refine bR_ ?_ NB50_119.out _; refine BW_ ?_; refine bR_ ?_ NB50_119.out _; refine BW_ ?_; exact BK50.out) hb); replace BK101 := Zz.mk (bB_ (g := gb101) (o := .cells #[.int .i64 a0_0, .int .i64 a0_1, .int .i64 1, .slice A1 l1.length c1] 48 (0, 0)) (by refine BW_ ?_; refine bR_ ?_ NB101_119.out _; refine BW_ ?_; refine bR_ ?_ NB101_119.out _; refine BW_ ?_; refine bR_ ?_ NB101_119.out _; refine BW_ ?_; refine bR_ ?_ NB101_119.out _; refine BW_ ?_; exact BK101.out) hb); replace BK108 := Zz.mk (bB_ (g := gb108) (o := .cells #[.int .i64 t102, .int .i64 t103, .int .i64 t104, .slice Ao18 t105.length co18] 48 (0, 0)) (by refine BW_ ?_; refine bR_ ?_ NB108_119.out _; refine BW_ ?_; refine bR_ ?_ NB108_119.out _; refine BW_ ?_; refine bR_ ?_ NB108_119.out _; refine BW_ ?_; refine bR_ ?_ NB108_119.out _; refine BW_ ?_; exact BK108.out) hb); replace BK119 := Zz.mk (bB_ (g := gb119) (o := .cells #[.int .i64 t109, .int .i64 t110, .int .i64 t111, .slice Ao25 t112.length co25] 48 (0, 0)) (by refine BW_ ?_; refine bP_ (cs := #[.int .i64 t109, .int .i64 t110, .int .i64 t111, .slice none 0 0]) ?_ 3 _ rfl; refine BW_ ?_; refine bP_ (cs := #[.int .i64 t109, .int .i64 t110, .int .i64 0, .slice none 0 0]) ?_ 2 _ rfl; refine BW_ ?_; refine bP_ (cs := #[.int .i64 t109, .int .i64 0, .int .i64 0, .slice none 0 0]) ?_ 1 _ rfl; refine BW_ ?_; refine bP_ (cs := #[.int .i64 0, .int .i64 0, .int .i64 0, .slice none 0 0]) ?_ 0 _ rfl; refine BW_ ?_; exact BK119.out) hb); replace HB := Zz.mk (bT_ (B3_ HB.out GE101.out GE108.out GE119.out) hb); clear hb ho29))
 go_loopg [12] k (fun kq v12 w' => ∃ (x11_1 : List Int) (x12_1 : Int), v12 = .int .i64 x12_1 ∧ Zz (z151.l0 kq t115 x11_1 x12_1 a0_0 a0_1 a0_2 l0_3 t102 t103 t104 t105 t109 t110 t111 t112 = some (r1, r2)) ∧ Zz (kq ≤ k) ∧ Zz (Kd.R (Kd.int .i64) 2 w' w.heap.size (fun k_ => some k_ ≠ (v121 : Value).ownBlock ∧ some k_ ≠ ((.slice Ao18 t105.length co18) : Value).ownBlock ∧ some k_ ≠ ((.slice Ao25 t112.length co25) : Value).ownBlock) v116 t115) ∧ Zz (Kd.R (Kd.int .i64) 2 w' w.heap.size (fun k_ => some k_ ≠ (v116 : Value).ownBlock ∧ some k_ ≠ ((.slice Ao18 t105.length co18) : Value).ownBlock ∧ some k_ ≠ ((.slice Ao25 t112.length co25) : Value).ownBlock) v121 x11_1) ∧ Zz (Kd.R (Kd.int .i64) 2 w' w.heap.size (fun k_ => some k_ ≠ (v116 : Value).ownBlock ∧ some k_ ≠ (v121 : Value).ownBlock ∧ some k_ ≠ ((.slice Ao25 t112.length co25) : Value).ownBlock) (.slice Ao18 t105.length co18) t105) ∧ Zz (Kd.R (Kd.int .i64) 2 w' w.heap.size (fun k_ => some k_ ≠ (v116 : Value).ownBlock ∧ some k_ ≠ (v121 : Value).ownBlock ∧ some k_ ≠ ((.slice Ao18 t105.length co18) : Value).ownBlock) (.slice Ao25 t112.length co25) t112) ∧ Zz (w'.heap[gp0]? = some (.cells #[.int .i64 a0_0, .int .i64 a0_1, .int .i64 a0_2, (.slice A0_3 l0_3.length c0_3)] 48 (0, 0))) ∧ Zz (w'.heap[gb101]? = some (.cells #[.int .i64 a0_0, .int .i64 a0_1, .int .i64 1, (.slice A1 l1.length c1)] 48 (0, 0))) ∧ Zz (w'.heap[gb108]? = some (.cells #[.int .i64 t102, .int .i64 t103, .int .i64 t104, (.slice Ao18 t105.length co18)] 48 (0, 0))) ∧ Zz (w'.heap[gb119]? = some (.cells #[.int .i64 t109, .int .i64 t110, .int .i64 t111, (.slice Ao25 t112.length co25)] 48 (0, 0))) ∧ Zz (Below w.heap.size w w'))
 case atStart => exact ⟨(y120), (0), E_, H', ⟨Nat.le_refl _⟩, ⟨by refine RW_ ?_; exact Kd.R_mono HO117.out (fun _ hk => ⟨hk.2, ⟨hk.1.2, hk.1.1⟩⟩)⟩, ⟨by refine RW_ ?_; exact Kd.R_mono HO122.out (fun _ hk => ⟨hk.2, ⟨hk.1.1.2, hk.1.2⟩⟩)⟩, ⟨by refine RW_ ?_; exact Kd.R_mono HO107.out (fun _ hk => ⟨hk.1.2, ⟨hk.2, hk.1.1.2⟩⟩)⟩, ⟨by refine RW_ ?_; exact Kd.R_mono HO114.out (fun _ hk => ⟨hk.1.1, ⟨hk.2, hk.1.2⟩⟩)⟩, ⟨KB_ BK50.out⟩, ⟨KB_ BK101.out⟩, ⟨KB_ BK108.out⟩, ⟨KB_ BK119.out⟩, ⟨B3_ HB.out GE101.out GE108.out GE119.out⟩⟩
 case round =>
  clear H'
  (try clear c1);(try clear c5);(try clear c5b0);(try clear c5b1);(try clear c6);(try clear c6b0);(try clear c6b1);(try clear hcz17_0);(try clear hcz17_1);(try clear hcz17_2);(try clear hcz17_3);(try clear hcz24_0);(try clear hcz24_1);(try clear hcz24_2);(try clear hcz24_3);(try clear hcz27_0);(try clear hcz27_1);(try clear hcz27_2);(try clear hcz27_3);(try clear hfz17_0);(try clear hfz17_1);(try clear hfz17_2);(try clear hfz17_3);(try clear hfz24_0);(try clear hfz24_1);(try clear hfz24_2);(try clear hfz24_3);(try clear hfz27_0);(try clear hfz27_1);(try clear hfz27_2);(try clear hfz27_3)
  obtain ⟨x11_1, x12_1, rfl, HA, HK1, HO_9, HO_11, HO_109003, HO_120003, BK50, BK101, BK108, BK119, HB⟩ := hrel
  cases gk with
  | zero => exact absurd HA.out (by simp [z151.l0])
  | succ k1 =>
   have H := HA.out
   clear HA
   simp only [z151.l0] at H
   by_cases c30 : x12_1 < (t115.length : Int)
   ·rw [if_pos c30] at H
    have c30b0 : decide (x12_1 < (t115.length : Int)) = true := decide_eq_true c30
    clear c30
    have c31b0 := O3_ H
    replace H := O2_ H
    by_cases c32 : (rd t115 x12_1) = a0_2
    ·rw [if_pos c32] at H
     have c32b0 : ((rd t115 x12_1) == a0_2) = true := beq_iff_eq.mpr c32
     have c32b1 : ((rd t115 x12_1) != a0_2) = false := bne_eq_false_iff_eq.mpr c32
     clear c32
     simp only [Option.some.injEq, Prod.mk.injEq] at H
     obtain ⟨rfl, rfl⟩ := H
     obtain ⟨Ao33, co33, eo33⟩ := Kd.R_slice HO_9.out
     subst eo33
     try go_wp2
     replace HO_9 := Zz.mk (Kd.R_drew HO_9.out)
     replace HO_11 := Zz.mk (Kd.R_drew HO_11.out)
     replace HO_109003 := Zz.mk (Kd.R_drew HO_109003.out)
     replace HO_120003 := Zz.mk (Kd.R_drew HO_120003.out)
     replace BK50 := Zz.mk (bD_ BK50.out)
     replace BK101 := Zz.mk (bD_ BK101.out)
     replace BK108 := Zz.mk (bD_ BK108.out)
     replace BK119 := Zz.mk (bD_ BK119.out)
     replace HB := Zz.mk (qAn HB.out)
     have p123 : 0 ≤ (x12_1 : Int) := D_
     have q123 : x12_1 < (t115.length : Int) := D_
     obtain ⟨ad123, e123, hx123_0⟩ := Kd.at_int (Kd.R_reads' HO_9.out).2.2 x12_1 p123 q123
     cases e123
     replace p123 := eq_true p123
     replace q123 := eq_true q123
     refine qBf (n := 9) (S := fun w' => w'.cell? ⟨gp0, 0, none⟩ = some (.int .i64 a0_0) ∧ w'.cell? ⟨gp0, 1, none⟩ = some (.int .i64 a0_1) ∧ w'.cell? ⟨gp0, 2, none⟩ = some (.int .i64 a0_2) ∧ w'.cell? ⟨gp0, 3, none⟩ = some (.slice A0_3 l0_3.length c0_3) ∧ w'.cell? (ad123.add (x12_1).toNat) = some (.int .i64 (rd t115 x12_1))) (ds := []) (tb_ 9 0) (by kernel_rfl) rfl rfl ⟨(bC_ BK50.out 0).trans rfl, (bC_ BK50.out 1).trans rfl, (bC_ BK50.out 2).trans rfl, (bC_ BK50.out 3).trans rfl, hx123_0⟩ (fun hHeld => ?_); refine qA7 z151.tab8 z151.bits8 (fun HT_ HW_ => ?_)
     generalize wr.drew = w34 at HO_9 HO_11 HO_109003 HO_120003 BK50 BK101 BK108 BK119 HB hx123_0 hHeld ⊢
     refine PX_ 0 41 (tb_ 9 1) HT_ rfl rfl ?_
     refine PX_ 1 42 (tb_ 9 3) HT_ rfl rfl ?_
     refine PX_ 2 43 (tb_ 9 7) HT_ rfl rfl ?_
     refine PX_ 4 45 (tb_ 9 23) HT_ rfl rfl ?_
     refine PX_ 5 46 (tb_ 9 55) HT_ rfl rfl ?_
     refine PX_ 6 47 (tb_ 9 119) HT_ rfl rfl ?_
     refine TV_ (i := 3) (N := some 44) (tb_ 9 127) HT_ HW_ rfl rfl hHeld (by rintro w' ⟨s0, s1, s2, s3, s4⟩; go_simp; with_reducible rfl) (h := ?_)
     refine TV_ (i := 7) (N := some 48) (tb_ 9 255) HT_ HW_ rfl rfl hHeld (by rintro w' ⟨s0, s1, s2, s3, s4⟩; go_simp; with_reducible rfl) (h := ?_)
     refine PX_ 8 49 (tb_ 9 511) HT_ rfl rfl ?_
     refine qBy (qBe HT_.out (by kernel_rfl)) ?_
     try go_wp2
     go_ret2
     exact ⟨_, F_, by first | exact Kd.R_nil _ _ _ _ _ | exact Kd.N_nil _ _ _ _ _ | exact Kd.V_nil _ _ _ _ _ | exact Kd.Q_nil _ _ _ _ _ | exact Kd.S_nil _ _ _ _ _, B3_ HB.out GE101.out GE108.out GE119.out⟩
    rw [if_neg c32] at H
    have c32b0 : ((rd t115 x12_1) == a0_2) = false := beq_eq_false_iff_ne.mpr c32
    have c32b1 : ((rd t115 x12_1) != a0_2) = true := bne_iff_ne.mpr c32
    obtain ⟨ji35, hji35⟩ : ∃ j_ : Int, (wrap64 ((wrap64 (x12_1 * t104)) + a0_2)) = j_ := ⟨_, rfl⟩
    replace H : (if 0 ≤ (ji35) then (if (ji35) < (t112.length : Int) then (if 0 ≤ (rd t115 x12_1) then (if (rd t115 x12_1) < (x11_1.length : Int) then (z151.l0 k1 t115 (x11_1.set ((rd t115 x12_1) : Int).toNat (rd t112 (ji35))) (wrap64 (x12_1 + 1)) a0_0 a0_1 a0_2 l0_3 t102 t103 t104 t105 t109 t110 t111 t112) else (none)) else (none)) else (none)) else (none)) = some (r1, r2) := by first | (rw [hji35] at H; exact H) | (simp only [hji35] at H ⊢; exact H)
    have hji35w : (IntKind.i64.wrap ((wrap64 (x12_1 * t104)) + a0_2)) = ji35 := (qA6 _).trans hji35
    have c36b0 := O3_ H
    replace H := O2_ H
    have c37b0 := O3_ H
    replace H := O2_ H
    have c38b0 := O3_ H
    replace H := O2_ H
    have c39b0 := O3_ H
    replace H := O2_ H
    obtain ⟨y126, hy126⟩ : ∃ y_ : List Int, y_ = (x11_1.set ((rd t115 x12_1) : Int).toNat (rd t112 (ji35))) := ⟨_, rfl⟩
    replace H : (z151.l0 k1 t115 y126 (wrap64 (x12_1 + 1)) a0_0 a0_1 a0_2 l0_3 t102 t103 t104 t105 t109 t110 t111 t112) = some (r1, r2) := Y_ hy126 H
    have Ny126 := Zz.mk hy126
    clear hy126
    have H' := Zz.mk H
    clear H
    obtain ⟨Ao41, co41, eo41⟩ := Kd.R_slice HO_9.out
    subst eo41
    try go_wp2
    replace HO_9 := Zz.mk (Kd.R_drew HO_9.out)
    replace HO_11 := Zz.mk (Kd.R_drew HO_11.out)
    replace HO_109003 := Zz.mk (Kd.R_drew HO_109003.out)
    replace HO_120003 := Zz.mk (Kd.R_drew HO_120003.out)
    replace BK50 := Zz.mk (bD_ BK50.out)
    replace BK101 := Zz.mk (bD_ BK101.out)
    replace BK108 := Zz.mk (bD_ BK108.out)
    replace BK119 := Zz.mk (bD_ BK119.out)
    replace HB := Zz.mk (qAn HB.out)
    have p123 : 0 ≤ (x12_1 : Int) := D_
    have q123 : x12_1 < (t115.length : Int) := D_
    obtain ⟨ad123, e123, hx123_0⟩ := Kd.at_int (Kd.R_reads' HO_9.out).2.2 x12_1 p123 q123
    cases e123
    replace p123 := eq_true p123
    replace q123 := eq_true q123
    refine qBf (n := 9) (S := fun w' => w'.cell? ⟨gp0, 0, none⟩ = some (.int .i64 a0_0) ∧ w'.cell? ⟨gp0, 1, none⟩ = some (.int .i64 a0_1) ∧ w'.cell? ⟨gp0, 2, none⟩ = some (.int .i64 a0_2) ∧ w'.cell? ⟨gp0, 3, none⟩ = some (.slice A0_3 l0_3.length c0_3) ∧ w'.cell? (ad123.add (x12_1).toNat) = some (.int .i64 (rd t115 x12_1))) (ds := []) (tb_ 9 0) (by kernel_rfl) rfl rfl ⟨(bC_ BK50.out 0).trans rfl, (bC_ BK50.out 1).trans rfl, (bC_ BK50.out 2).trans rfl, (bC_ BK50.out 3).trans rfl, hx123_0⟩ (fun hHeld => ?_); refine qA7 z151.tab8 z151.bits8 (fun HT_ HW_ => ?_)
    generalize wr.drew = w42 at HO_9 HO_11 HO_109003 HO_120003 BK50 BK101 BK108 BK119 HB hx123_0 hHeld ⊢
    refine PX_ 0 41 (tb_ 9 1) HT_ rfl rfl ?_
    refine PX_ 1 42 (tb_ 9 3) HT_ rfl rfl ?_
    refine PX_ 2 43 (tb_ 9 7) HT_ rfl rfl ?_
    refine PX_ 4 45 (tb_ 9 23) HT_ rfl rfl ?_
    refine PX_ 5 46 (tb_ 9 55) HT_ rfl rfl ?_
    refine PX_ 6 47 (tb_ 9 119) HT_ rfl rfl ?_
    refine TV_ (i := 3) (N := some 44) (tb_ 9 127) HT_ HW_ rfl rfl hHeld (by rintro w' ⟨s0, s1, s2, s3, s4⟩; go_simp; with_reducible rfl) (h := ?_)
    refine TV_ (i := 7) (N := some 48) (tb_ 9 255) HT_ HW_ rfl rfl hHeld (by rintro w' ⟨s0, s1, s2, s3, s4⟩; go_simp; with_reducible rfl) (h := ?_)
    refine PX_ 8 49 (tb_ 9 511) HT_ rfl rfl ?_
    refine qBy (qBe HT_.out (by kernel_rfl)) ?_
    try go_wp2
    replace HO_9 := Zz.mk (Kd.R_drew HO_9.out)
    replace HO_11 := Zz.mk (Kd.R_drew HO_11.out)
    replace HO_109003 := Zz.mk (Kd.R_drew HO_109003.out)
    replace HO_120003 := Zz.mk (Kd.R_drew HO_120003.out)
    replace BK50 := Zz.mk (bD_ BK50.out)
    replace BK101 := Zz.mk (bD_ BK101.out)
    replace BK108 := Zz.mk (bD_ BK108.out)
    replace BK119 := Zz.mk (bD_ BK119.out)
    replace HB := Zz.mk (qAn HB.out)
    have p124 : 0 ≤ (x12_1 : Int) := D_
    have q124 : x12_1 < (t115.length : Int) := D_
    obtain ⟨ad124, e124, hx124_0⟩ := Kd.at_int (Kd.R_reads' HO_9.out).2.2 x12_1 p124 q124
    obtain rfl : ad123 = ad124 := (by injection e124)
    replace p124 := eq_true p124
    replace q124 := eq_true q124
    have p125 : 0 ≤ ((ji35) : Int) := D_
    have q125 : (ji35) < (t112.length : Int) := D_
    obtain ⟨ad125, e125, hx125_0⟩ := Kd.at_int (Kd.R_reads' HO_120003.out).2.2 (ji35) p125 q125
    cases e125
    replace p125 := eq_true p125
    replace q125 := eq_true q125
    have p40 : 0 ≤ ((rd t115 x12_1) : Int) := D_
    have q40 : ((rd t115 x12_1) : Int) < ((x11_1.length : Int) : Int) := D_
    obtain ⟨go40, co40, eo40, gb40, gl40, cl40, HG40⟩ := Kd.R_form HO_11.out (by omega)
    (first | cases eo40 | (injection eo40 with ea_ en_ ec_; (first | subst ea_ | (injection ea_ with ea_; subst ea_)); subst ec_; clear en_))
    have GB40 := Zz.mk gb40
    have GG40 := Zz.mk HG40
    clear gb40 gl40 HG40
    obtain ⟨hx40_0, hf40_0⟩ := Kd.R_celln 0 HO_11.out ((rd t115 x12_1) : Int) p40 q40
    replace p40 := eq_true p40
    replace q40 := eq_true q40
    have HP44 := Kd.R_putn HO_11.out ((rd t115 x12_1) : Int) (rd t112 (ji35))
    rw [← Ny126.out] at HP44
    have HQ44 := Zz.mk HP44
    clear HP44
    refine qBf (n := 20) (S := fun w' => w'.cell? ⟨gb119, 0, none⟩ = some (.int .i64 t109) ∧ w'.cell? ⟨gb119, 1, none⟩ = some (.int .i64 t110) ∧ w'.cell? ⟨gb119, 2, none⟩ = some (.int .i64 t111) ∧ w'.cell? ⟨gb119, 3, none⟩ = some (.slice (some ad125) t112.length co25) ∧ w'.cell? ⟨gb108, 0, none⟩ = some (.int .i64 t102) ∧ w'.cell? ⟨gb108, 1, none⟩ = some (.int .i64 t103) ∧ w'.cell? ⟨gb108, 2, none⟩ = some (.int .i64 t104) ∧ w'.cell? ⟨gb108, 3, none⟩ = some (.slice Ao18 t105.length co18) ∧ w'.cell? ⟨gp0, 0, none⟩ = some (.int .i64 a0_0) ∧ w'.cell? ⟨gp0, 1, none⟩ = some (.int .i64 a0_1) ∧ w'.cell? ⟨gp0, 2, none⟩ = some (.int .i64 a0_2) ∧ w'.cell? ⟨gp0, 3, none⟩ = some (.slice A0_3 l0_3.length c0_3) ∧ w'.cell? (ad123.add (x12_1).toNat) = some (.int .i64 (rd t115 x12_1)) ∧ w'.cell? (ad125.add ((ji35)).toNat) = some (.int .i64 (rd t112 (ji35)))) (ds := [19]) (tb_ 20 0) (by kernel_rfl) rfl rfl ⟨(bC_ BK119.out 0).trans rfl, (bC_ BK119.out 1).trans rfl, (bC_ BK119.out 2).trans rfl, (bC_ BK119.out 3).trans rfl, (bC_ BK108.out 0).trans rfl, (bC_ BK108.out 1).trans rfl, (bC_ BK108.out 2).trans rfl, (bC_ BK108.out 3).trans rfl, (bC_ BK50.out 0).trans rfl, (bC_ BK50.out 1).trans rfl, (bC_ BK50.out 2).trans rfl, (bC_ BK50.out 3).trans rfl, hx124_0, hx125_0⟩ (fun hHeld => ?_); refine qA7 z151.tab10 z151.bits10 (fun HT_ HW_ => ?_)
    generalize w42.drew = w43 at HO_9 HO_11 HO_109003 HO_120003 BK50 BK101 BK108 BK119 HB GG40 HQ44 hf40_0 hx124_0 hx125_0 hx40_0 hHeld ⊢
    refine PX_ 0 50 (tb_ 20 1) HT_ rfl rfl ?_
    refine PX_ 1 51 (tb_ 20 3) HT_ rfl rfl ?_
    refine PX_ 2 52 (tb_ 20 7) HT_ rfl rfl ?_
    refine PX_ 3 53 (tb_ 20 15) HT_ rfl rfl ?_
    refine PX_ 5 55 (tb_ 20 47) HT_ rfl rfl ?_
    refine PX_ 7 57 (tb_ 20 175) HT_ rfl rfl ?_
    refine PX_ 8 58 (tb_ 20 431) HT_ rfl rfl ?_
    refine PX_ 11 61 (tb_ 20 2479) HT_ rfl rfl ?_
    refine PX_ 12 62 (tb_ 20 6575) HT_ rfl rfl ?_
    refine PX_ 13 63 (tb_ 20 14767) HT_ rfl rfl ?_
    refine TV_ (i := 4) (N := some 54) (tb_ 20 14783) HT_ HW_ rfl rfl hHeld (by rintro w' ⟨s0, s1, s2, s3, s4, s5, s6, s7, s8, s9, s10, s11, s12, s13⟩; go_simp; with_reducible rfl) (h := ?_)
    refine TV_ (i := 6) (N := some 56) (tb_ 20 14847) HT_ HW_ rfl rfl hHeld (by rintro w' ⟨s0, s1, s2, s3, s4, s5, s6, s7, s8, s9, s10, s11, s12, s13⟩; go_simp; with_reducible rfl) (h := ?_)
    refine TV_ (i := 9) (N := some 59) (tb_ 20 15359) HT_ HW_ rfl rfl hHeld (by rintro w' ⟨s0, s1, s2, s3, s4, s5, s6, s7, s8, s9, s10, s11, s12, s13⟩; go_simp; with_reducible rfl) (h := ?_)
    refine PX_ 10 60 (tb_ 20 16383) HT_ rfl rfl ?_
    refine TV_ (i := 14) (N := some 64) (tb_ 20 32767) HT_ HW_ rfl rfl hHeld (by rintro w' ⟨s0, s1, s2, s3, s4, s5, s6, s7, s8, s9, s10, s11, s12, s13⟩; go_simp; with_reducible rfl) (h := ?_)
    refine PX_ 15 65 (tb_ 20 65535) HT_ rfl rfl ?_
    refine PX_ 16 66 (tb_ 20 131071) HT_ rfl rfl ?_
    refine TV_ (i := 17) (N := some 67) (tb_ 20 262143) HT_ HW_ rfl rfl hHeld (by rintro w' ⟨s0, s1, s2, s3, s4, s5, s6, s7, s8, s9, s10, s11, s12, s13⟩; go_simp; with_reducible rfl) (h := ?_)
    refine PX_ 18 68 (tb_ 20 524287) HT_ rfl rfl ?_
    refine qC0 (i := 19) (N := none) (tb_ 20 1048575) rfl rfl (qA8 HT_.out (by kernel_rfl)) (by decide) (fun K hK => ?_)
    refine qCr (w1 := ?_) (by rfl) rfl ?_ ?_
    rotate_left
    ·go_simp
     rfl
    refine hK.out _ _ ?_
    clear hK K
    refine qBy (qBe HT_.out (by kernel_rfl)) ?_
    try go_wp2
    go_roundg k1
    case measure => exact Q1_ HK1
    case rel => exact ⟨(y126), (wrap64 (x12_1 + 1)), E_, H', ⟨Q1_ HK1⟩, ⟨by refine RW_ ?_; exact Kd.R_mono (Kd.R_far (p := ⟨go40, ((rd t115 x12_1) : Int).toNat, none⟩) (Kd.R_mono HO_9.out (fun k_ hk => (⟨hk, fun e_ => hk.1 (by rw [e_]; rfl)⟩ : _ ∧ k_ ≠ go40))) (fun _ hk => hk.2) (.int .i64 (rd t112 (ji35)))) (fun _ hk => ⟨hk.1.1, ⟨hk.1.2.1, hk.1.2.2⟩⟩)⟩, ⟨KR_ HQ44.out⟩, ⟨by refine RW_ ?_; exact Kd.R_mono (Kd.R_far (p := ⟨go40, ((rd t115 x12_1) : Int).toNat, none⟩) (Kd.R_mono HO_109003.out (fun k_ hk => (⟨hk, fun e_ => hk.2.1 (by rw [e_]; rfl)⟩ : _ ∧ k_ ≠ go40))) (fun _ hk => hk.2) (.int .i64 (rd t112 (ji35)))) (fun _ hk => ⟨hk.1.1, ⟨hk.1.2.1, hk.1.2.2⟩⟩)⟩, ⟨by refine RW_ ?_; exact Kd.R_mono (Kd.R_far (p := ⟨go40, ((rd t115 x12_1) : Int).toNat, none⟩) (Kd.R_mono HO_120003.out (fun k_ hk => (⟨hk, fun e_ => hk.2.1 (by rw [e_]; rfl)⟩ : _ ∧ k_ ≠ go40))) (fun _ hk => hk.2) (.int .i64 (rd t112 (ji35)))) (fun _ hk => ⟨hk.1.1, ⟨hk.1.2.1, hk.1.2.2⟩⟩)⟩, ⟨by refine BW_ ?_; refine bR_ ?_ (by have h_ := Kd.R_ne HO_11.out BK50.out (by decide); intro e_; exact h_ (by rw [e_]; rfl)) _; refine BW_ ?_; exact BK50.out⟩, ⟨by refine BW_ ?_; refine bR_ ?_ (by have h_ := Kd.R_ne HO_11.out BK101.out (by decide); intro e_; exact h_ (by rw [e_]; rfl)) _; refine BW_ ?_; exact BK101.out⟩, ⟨by refine BW_ ?_; refine bR_ ?_ (by have h_ := Kd.R_ne HO_11.out BK108.out (by decide); intro e_; exact h_ (by rw [e_]; rfl)) _; refine BW_ ?_; exact BK108.out⟩, ⟨by refine BW_ ?_; refine bR_ ?_ (by have h_ := Kd.R_ne HO_11.out BK119.out (by decide); intro e_; exact h_ (by rw [e_]; rfl)) _; refine BW_ ?_; exact BK119.out⟩, ⟨by repeat (first | (with_reducible first | exact HB.out | apply qAt | apply qAq | apply qAn | refine qAj ?_ GB40.out | refine qAj ?_ GE50.out | refine qAj ?_ GE101.out | refine qAj ?_ GE108.out | refine qAj ?_ GE119.out) | exact HB.out)⟩⟩
   rw [if_neg c30] at H
   have c30b0 : decide (x12_1 < (t115.length : Int)) = false := decide_eq_false c30
   clear c30
   simp only [Option.some.injEq, Prod.mk.injEq] at H
   obtain ⟨rfl, rfl⟩ := H
   obtain ⟨Ao45, co45, eo45⟩ := Kd.R_slice HO_9.out
   subst eo45
   go_wp2
   go_ret2
   exact ⟨_, F_, by refine RW_ ?_; exact Kd.R_mono HO_11.out (fun _ hk => trivial), B3_ HB.out GE101.out GE108.out GE119.out⟩
end Go.Proofs.Ytipkciildhghiaa.B
