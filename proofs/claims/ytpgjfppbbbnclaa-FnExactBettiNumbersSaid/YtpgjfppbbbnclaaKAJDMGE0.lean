/- Printed proofs of functions of the program and of the reference, by a program of this work over the kit's printer. -/
import Derived.Test.YtpgjfppbbbnclaaKLEKPEN0
import Derived.Test.YtpgjfppbbbnclaaKLEKPEN1
import Derived.Test.YtpgjfppbbbnclaaKW0
namespace Go.Proofs.Ytpgjfppbbbnclaa.B
open Go.RowKit Go.Proofs.YtpgjfppbbbnclaaW.PrintWords Go.Proofs.YtpgjfppbbbnclaaW.PrintLast Go.Proofs.YtpgjfppbbbnclaaW.PrintMore
attribute [local go_sem] qAh qAf qAl qAk qAc qAb qAg qAe
set_option linter.unusedVariables false
set_option linter.unusedSimpArgs false
mutual
def z32.l0 : Nat → Int → Int → List Int → List Int → Int → List (List Int) → Int → Int → Int → List Int → Option (Int × Int × Int × List Int)
 | 0, _, _, _, _, _, _, _, _, _, _ => none
 | k + 1, x1, x2, x7, x8, x10, x51000, x115000, x115001, x115002, x115003 => if x10 < (x7.length : Int) then (z32.j1 k x1 x2 x7 x8 x10 (decide (x1 > 0)) x51000 x115000 x115001 x115002 x115003) else (z32.j1 k x1 x2 x7 x8 x10 false x51000 x115000 x115001 x115002 x115003)
def z32.j1 : Nat → Int → Int → List Int → List Int → Int → Bool → List (List Int) → Int → Int → Int → List Int → Option (Int × Int × Int × List Int)
 | 0, _, _, _, _, _, _, _, _, _, _, _ => none
 | k + 1, x1, x2, x7, x8, x10, x33, x51000, x115000, x115001, x115002, x115003 => if x33 = true then (if 0 ≤ x10 then (if x10 < (x7.length : Int) then ((z48.f k x51000 (rd x7 x10)).bind fun t116 => (z32.l1 k x1 x2 x7 x8 x10 t116 0 x51000 x115000 x115001 x115002 x115003)) else (none)) else (none)) else (some (x115000, x115001, x115002, x115003))
def z32.l1 : Nat → Int → Int → List Int → List Int → Int → List Int → Int → List (List Int) → Int → Int → Int → List Int → Option (Int × Int × Int × List Int)
 | 0, _, _, _, _, _, _, _, _, _, _, _, _ => none
 | k + 1, x1, x2, x7, x8, x10, x11, x12, x51000, x115000, x115001, x115002, x115003 => if x12 < (x11.length : Int) then (if 0 ≤ x12 then (if 0 < (x8.length : Int) then ((z49.f x12 x2).bind fun t121 => (if 0 ≤ (wrap64 ((wrap64 ((wrap64 ((rd x11 x12) - (rd x8 0))) * x115002)) + x10)) then (if (wrap64 ((wrap64 ((wrap64 ((rd x11 x12) - (rd x8 0))) * x115002)) + x10)) < (x115003.length : Int) then (z32.l1 k x1 x2 x7 x8 x10 x11 (wrap64 (x12 + 1)) x51000 x115000 x115001 x115002 (x115003.set ((wrap64 ((wrap64 ((wrap64 ((rd x11 x12) - (rd x8 0))) * x115002)) + x10)) : Int).toNat t121)) else (none)) else (none))) else (none)) else (none)) else (z32.l0 k x1 x2 x7 x8 (wrap64 (x10 + 1)) x51000 x115000 x115001 x115002 x115003)
end
def z32.f (k : Nat) (l0_0 : List (List Int)) (a1 : Int) (a2 : Int) : Option (Int × Int × Int × List Int) := (z31.f k l0_0 a1).bind fun t102 => ((z31.f k l0_0 (wrap64 (a1 - 1))).bind fun t105 => ((z47.f a2 (t105.length : Int) (t102.length : Int)).bind fun bt108 => (z32.l0 k a1 a2 t102 t105 0 l0_0 bt108.1 bt108.2.1 bt108.2.2.1 bt108.2.2.2)))
def z32.T11 : Bool × List (List Nat × List Nat) := (true, [([], []), ([0], [0]), ([], []), ([], []), ([2, 3], [2, 3]), ([4], [4]), ([], []), ([6], [6]), ([7], [7]), ([5, 8], [5, 8]), ([], []), ([10], [10]), ([9, 11], [9, 11]), ([], []), ([12, 13], [12, 13]), ([], []), ([], []), ([15, 16], [15, 16]), ([1, 14, 0, 1, 2, 3, 4, 5, 6, 7, 8, 9, 10, 11, 12, 13, 14, 15, 16, 17], [1, 14]), ([18, 17, 17, 0, 1, 2, 3, 4, 5, 6, 7, 8, 9, 10, 11, 12, 13, 14, 15, 16, 17], [17, 18])])
def z32.B11 : List Nat := [0, 1, 0, 0, 12, 28, 0, 64, 192, 508, 0, 1024, 4092, 0, 16380, 0, 0, 98304, 262143, 524287]
theorem z32.tab11 : rtab .any (qC4 Try.f32 11) = z32.T11 := by kernel_rfl
theorem z32.bits11 : qBe z32.T11.2 z32.B11 = true := by kernel_rfl
set_option maxHeartbeats 8000000 in
set_option maxRecDepth 100000 in
theorem z32.calls (k : Nat) (gp0 : Nat) (A0_0 : Option Addr) (c0_0 : Nat) (l0_0 : List (List Int)) (a1 : Int) (a2 : Int) (r1 : Int) (r2 : Int) (r3 : Int) (r4 : List Int) (w : World) (hbp0 : w.heap[gp0]? = some (.cells #[.slice A0_0 l0_0.length c0_0] 29 (0, 0))) (hr0_0 : Kd.C (Kd.slice 2 (Kd.int .i64)) w A0_0 l0_0.length l0_0) (hc0_0 : l0_0.length ≤ c0_0) (h : z32.f k l0_0 a1 a2 = some (r1, r2, r3, r4)) :
  Calls Try.prog 32 #[.pointer (some ⟨gp0, 0, none⟩), .int .i64 a1, .int .i64 a2] w fun e w' => ∃ v3_ : Value, e = .returned (.agg #[.int .i64 r1, .int .i64 r2, .int .i64 r3, v3_]) ∧ Kd.R (Kd.int .i64) 2 w' w.heap.size (fun _ => True) v3_ r4 ∧ Below w.heap.size w w' := by
 have hu51 := Try.underlying51
 have HR0_0 := Zz.mk hr0_0
 have HC0_0 := Zz.mk hc0_0
 clear hr0_0 hc0_0
 have BK50 := Zz.mk hbp0
 clear hbp0
 have HB := Zz.mk (Below.refl w.heap.size w)
 have H : ((z31.f k l0_0 a1).bind fun t102 => ((z31.f k l0_0 (wrap64 (a1 - 1))).bind fun t105 => ((z47.f a2 (t105.length : Int) (t102.length : Int)).bind fun bt108 => (z32.l0 k a1 a2 t102 t105 0 l0_0 bt108.1 bt108.2.1 bt108.2.2.1 bt108.2.2.2)))) = some (r1, r2, r3, r4) := h
 clear h
 replace H := OB_ H
 obtain ⟨t102, A40, H⟩ := H
 replace H : ((z31.f k l0_0 (wrap64 (a1 - 1))).bind fun t105 => ((z47.f a2 (t105.length : Int) (t102.length : Int)).bind fun bt108 => (z32.l0 k a1 a2 t102 t105 0 l0_0 bt108.1 bt108.2.1 bt108.2.2.1 bt108.2.2.2))) = some (r1, r2, r3, r4) := H
 have A4 := Zz.mk A40
 clear A40
 replace H := OB_ H
 obtain ⟨t105, A50, H⟩ := H
 replace H : ((z47.f a2 (t105.length : Int) (t102.length : Int)).bind fun bt108 => (z32.l0 k a1 a2 t102 t105 0 l0_0 bt108.1 bt108.2.1 bt108.2.2.1 bt108.2.2.2)) = some (r1, r2, r3, r4) := H
 have A5 := Zz.mk A50
 clear A50
 replace H := OB_ H
 obtain ⟨⟨t108, t109, t110, t111⟩, A60, H⟩ := H
 replace H : (z32.l0 k a1 a2 t102 t105 0 l0_0 t108 t109 t110 t111) = some (r1, r2, r3, r4) := H
 have A6 := Zz.mk A60
 clear A60
 have H' := Zz.mk H
 clear H
 go_enter Try.func32, Try.ntmps32
 go_wp2_with (first | ((with_reducible refine qAm (N := 6) rfl ?_); refine bx_ 6 #[.int .i64 0, .int .i64 0, .int .i64 0, .slice none 0 0] 51 ?_; intro gb101 hg w7 hbox hb; have BK101 := Zz.mk (hbox); have GW101 := Zz.mk ((gw_ hg (B_ HB.out))); have GE101 := GW101; have NB50_101 := Zz.mk ((nb_ BK50.out hg)); have NB101_50 := Zz.mk NB50_101.out.symm; replace BK50 := Zz.mk (kb_ BK50.out hb); replace HB := Zz.mk (bT_ (B_ HB.out) hb); clear hb hbox hg) | ((with_reducible refine gC_ (f := 31) rfl ?_); refine GL_ (some 15) rfl rfl Try.func31 #[.pointer (some ⟨gp0, 0, none⟩), .int .i64 a1] rfl (h := ?_); (with_reducible refine (z31.calls k gp0 A0_0 c0_0 l0_0 a1 t102 _ ?side1 ?side2 ?side3 A4.out).mono ?_); (case side1 => refine BW_ ?_; exact BK50.out); (case side2 => exact KC_ (Kd.C_below HR0_0.out HB.out)); (case side3 => exact HC0_0.out); rintro e w8 ⟨v103, rfl, ho0, hb⟩; refine ⟨_, rfl, ?_⟩; have HO104 := Zz.mk (Kd.R_lower ho0 (bS_ (B1_ HB.out GE101.out))); replace BK50 := Zz.mk (kb_ BK50.out hb); replace BK101 := Zz.mk (kb_ BK101.out hb); replace HB := Zz.mk (bT_ (B1_ HB.out GE101.out) hb); (try clear hb); (try clear ho0)) | ((with_reducible refine gC_ (f := 31) rfl ?_); refine GL_ (some 19) rfl rfl Try.func31 #[.pointer (some ⟨gp0, 0, none⟩), .int .i64 (wrap64 (a1 - 1))] rfl (h := ?_); (with_reducible refine (z31.calls k gp0 A0_0 c0_0 l0_0 (wrap64 (a1 - 1)) t105 _ ?side1 ?side2 ?side3 A5.out).mono ?_); (case side1 => refine BW_ ?_; exact BK50.out); (case side2 => exact KC_ (Kd.C_below HR0_0.out HB.out)); (case side3 => exact HC0_0.out); rintro e w9 ⟨v106, rfl, ho0, hb⟩; refine ⟨_, rfl, ?_⟩; have HO107 := Zz.mk (Kd.R_lower (Kd.R_new' ho0 (Kd.R_lt (KR_ HO104.out))) (bS_ (B1_ HB.out GE101.out))); replace HO104 := Zz.mk (Kd.R_elder' (KR_ HO104.out) (Kd.R_base ho0) hb); replace BK50 := Zz.mk (kb_ BK50.out hb); replace BK101 := Zz.mk (kb_ BK101.out hb); replace HB := Zz.mk (bT_ (B1_ HB.out GE101.out) hb); (try clear hb); (try clear ho0); obtain ⟨Ao10, co10, eo10⟩ := Kd.R_slice HO107.out; subst eo10; obtain ⟨Ao11, co11, eo11⟩ := Kd.R_slice HO104.out; subst eo11) | ((with_reducible refine gC_ (f := 47) rfl ?_); refine GL_ (some 25) rfl rfl Try.func47 #[.int .i64 a2, .int .i64 (t105.length : Int), .int .i64 (t102.length : Int)] rfl (h := ?_); (with_reducible refine (z47.calls a2 (t105.length : Int) (t102.length : Int) t108 t109 t110 t111 _ A6.out).mono ?_); rintro e w12 ⟨v112, rfl, ho0, hb⟩; refine ⟨_, rfl, ?_⟩; have HO113 := Zz.mk (Kd.R_lower (Kd.R_new' (Kd.R_new' ho0 (Kd.R_lt (KR_ HO104.out))) (Kd.R_lt (KR_ HO107.out))) (bS_ (B1_ HB.out GE101.out))); replace HO104 := Zz.mk (Kd.R_elder' (KR_ HO104.out) (Kd.R_base ho0) hb); replace HO107 := Zz.mk (Kd.R_elder' (KR_ HO107.out) (Kd.R_base ho0) hb); replace BK50 := Zz.mk (kb_ BK50.out hb); replace BK101 := Zz.mk (kb_ BK101.out hb); replace HB := Zz.mk (bT_ (B1_ HB.out GE101.out) hb); (try clear hb); (try clear ho0)) | ((with_reducible refine qAm (N := 9) rfl ?_); refine bx_ 9 #[.int .i64 0, .int .i64 0, .int .i64 0, .slice none 0 0] 51 ?_; intro gb114 hg w13 hbox hb; have BK114 := Zz.mk (hbox); have GW114 := Zz.mk ((gw_ hg (B1_ HB.out GE101.out))); have GE114 := GW114; have NB50_114 := Zz.mk ((nb_ BK50.out hg)); have NB114_50 := Zz.mk NB50_114.out.symm; have NB101_114 := Zz.mk ((nb_ BK101.out hg)); have NB114_101 := Zz.mk NB101_114.out.symm; replace HO104 := Zz.mk (Kd.R_below (KR_ HO104.out) hb); replace HO107 := Zz.mk (Kd.R_below (KR_ HO107.out) hb); replace HO113 := Zz.mk (Kd.R_below (KR_ HO113.out) hb); replace BK50 := Zz.mk (kb_ BK50.out hb); replace BK101 := Zz.mk (kb_ BK101.out hb); replace HB := Zz.mk (bT_ (B1_ HB.out GE101.out) hb); clear hb hbox hg; have hnb14 := NB114_50.out; have hnc14 := NB50_114.out; have hnb15 := NB114_101.out; have hnc15 := NB101_114.out; obtain ⟨hcz16_0, hcz16_1, hcz16_2, hcz16_3, hfz16_0, hfz16_1, hfz16_2, hfz16_3⟩ := Z4f_ BK114.out; obtain ⟨Ao17, co17, eo17⟩ := Kd.R_slice HO113.out; subst eo17))
 go_loopg [10] k (fun kq v10 w' => ∃ (x7_1 : List Int) (x8_1 : List Int) (x10_1 : Int) (x115003_1 : List Int) (u115003 : Value), v10 = .int .i64 x10_1 ∧ Zz (z32.l0 kq a1 a2 x7_1 x8_1 x10_1 l0_0 t108 t109 t110 x115003_1 = some (r1, r2, r3, r4)) ∧ Zz (kq ≤ k) ∧ Zz (Kd.R (Kd.int .i64) 2 w' w.heap.size (fun k_ => some k_ ≠ ((.slice Ao10 t105.length co10) : Value).ownBlock ∧ some k_ ≠ (u115003 : Value).ownBlock) (.slice Ao11 t102.length co11) x7_1) ∧ Zz (Kd.R (Kd.int .i64) 2 w' w.heap.size (fun k_ => some k_ ≠ ((.slice Ao11 t102.length co11) : Value).ownBlock ∧ some k_ ≠ (u115003 : Value).ownBlock) (.slice Ao10 t105.length co10) x8_1) ∧ Zz (Kd.R (Kd.int .i64) 2 w' w.heap.size (fun k_ => some k_ ≠ ((.slice Ao11 t102.length co11) : Value).ownBlock ∧ some k_ ≠ ((.slice Ao10 t105.length co10) : Value).ownBlock) u115003 x115003_1) ∧ Zz (w'.heap[gp0]? = some (.cells #[(.slice A0_0 l0_0.length c0_0)] 29 (0, 0))) ∧ Zz (w'.heap[gb101]? = some (.cells #[.int .i64 0, .int .i64 0, .int .i64 0, (.slice none 0 0)] 51 (0, 0))) ∧ Zz (w'.heap[gb114]? = some (.cells #[.int .i64 t108, .int .i64 t109, .int .i64 t110, u115003] 51 (0, 0))) ∧ Zz (Below w.heap.size w w'))
 case atStart => exact ⟨(t102), (t105), (0), (t111), (.slice Ao17 t111.length co17), E_, H', ⟨Nat.le_refl _⟩, ⟨by refine RW_ ?_; exact Kd.R_mono (Kd.R_far (p := ⟨gb114, 3, none⟩) (Kd.R_far (p := ⟨gb114, 2, none⟩) (Kd.R_far (p := ⟨gb114, 1, none⟩) (Kd.R_far (p := ⟨gb114, 0, none⟩) (Kd.R_types HO104.out BK114.out (by decide)) (fun _ hk => hk.2) (.int .i64 t108)) (fun _ hk => hk.2) (.int .i64 t109)) (fun _ hk => hk.2) (.int .i64 t110)) (fun _ hk => hk.2) (.slice Ao17 t111.length co17)) (fun _ hk => ⟨hk.1.1.2, hk.1.2⟩)⟩, ⟨by refine RW_ ?_; exact Kd.R_mono (Kd.R_far (p := ⟨gb114, 3, none⟩) (Kd.R_far (p := ⟨gb114, 2, none⟩) (Kd.R_far (p := ⟨gb114, 1, none⟩) (Kd.R_far (p := ⟨gb114, 0, none⟩) (Kd.R_types HO107.out BK114.out (by decide)) (fun _ hk => hk.2) (.int .i64 t108)) (fun _ hk => hk.2) (.int .i64 t109)) (fun _ hk => hk.2) (.int .i64 t110)) (fun _ hk => hk.2) (.slice Ao17 t111.length co17)) (fun _ hk => ⟨hk.1.1.2, hk.1.2⟩)⟩, ⟨by refine RW_ ?_; exact Kd.R_mono (Kd.R_far (p := ⟨gb114, 3, none⟩) (Kd.R_far (p := ⟨gb114, 2, none⟩) (Kd.R_far (p := ⟨gb114, 1, none⟩) (Kd.R_far (p := ⟨gb114, 0, none⟩) (Kd.R_types HO113.out BK114.out (by decide)) (fun _ hk => hk.2) (.int .i64 t108)) (fun _ hk => hk.2) (.int .i64 t109)) (fun _ hk => hk.2) (.int .i64 t110)) (fun _ hk => hk.2) (.slice Ao17 t111.length co17)) (fun _ hk => ⟨hk.1.1.2, hk.1.2⟩)⟩, ⟨by refine BW_ ?_; refine bR_ ?_ NB50_114.out _; refine BW_ ?_; refine bR_ ?_ NB50_114.out _; refine BW_ ?_; refine bR_ ?_ NB50_114.out _; refine BW_ ?_; refine bR_ ?_ NB50_114.out _; refine BW_ ?_; exact BK50.out⟩, ⟨by refine BW_ ?_; refine bR_ ?_ NB101_114.out _; refine BW_ ?_; refine bR_ ?_ NB101_114.out _; refine BW_ ?_; refine bR_ ?_ NB101_114.out _; refine BW_ ?_; refine bR_ ?_ NB101_114.out _; refine BW_ ?_; exact BK101.out⟩, ⟨by refine BW_ ?_; refine bP_ (cs := #[.int .i64 t108, .int .i64 t109, .int .i64 t110, .slice none 0 0]) ?_ 3 _ rfl; refine BW_ ?_; refine bP_ (cs := #[.int .i64 t108, .int .i64 t109, .int .i64 0, .slice none 0 0]) ?_ 2 _ rfl; refine BW_ ?_; refine bP_ (cs := #[.int .i64 t108, .int .i64 0, .int .i64 0, .slice none 0 0]) ?_ 1 _ rfl; refine BW_ ?_; refine bP_ (cs := #[.int .i64 0, .int .i64 0, .int .i64 0, .slice none 0 0]) ?_ 0 _ rfl; refine BW_ ?_; exact BK114.out⟩, ⟨B2_ HB.out GE101.out GE114.out⟩⟩
 case round =>
  clear H'
  (try clear hcz16_0);(try clear hcz16_1);(try clear hcz16_2);(try clear hcz16_3);(try clear hfz16_0);(try clear hfz16_1);(try clear hfz16_2);(try clear hfz16_3)
  obtain ⟨x7_1, x8_1, x10_1, x115003_1, u115003, rfl, HA, HK1, HO_7, HO_8, HO_115003, BK50, BK101, BK114, HB⟩ := hrel
  have hl7_1 := (Kd.R_reads' HO_7.out).1
  rw [hl7_1] at HO_7
  (try simp only [hl7_1])
  (try simp only [hl7_1] at BK50)
  (try simp only [hl7_1] at BK101)
  (try simp only [hl7_1] at BK114)
  (try simp only [hl7_1] at HO_8)
  (try simp only [hl7_1] at HO_115003)
  have hl8_1 := (Kd.R_reads' HO_8.out).1
  rw [hl8_1] at HO_8
  (try simp only [hl8_1])
  (try simp only [hl8_1] at BK50)
  (try simp only [hl8_1] at BK101)
  (try simp only [hl8_1] at BK114)
  (try simp only [hl8_1] at HO_7)
  (try simp only [hl8_1] at HO_115003)
  cases gk with
  | zero => exact absurd HA.out (by simp [z32.l0])
  | succ k1 =>
   have H := HA.out
   clear HA
   simp only [z32.l0] at H
   have HC18 := Zz.mk H
   clear H
   go_upto_region 5 with (fail)
   go_cut [33] (fun v33 wc => ∃ (kq : Nat) (x33_17 : Bool), v33 = .bool x33_17 ∧ Zz (z32.j1 kq a1 a2 x7_1 x8_1 x10_1 x33_17 l0_0 t108 t109 t110 x115003_1 = some (r1, r2, r3, r4)) ∧ Zz (kq ≤ k1) ∧ Zz (Kd.R (Kd.int .i64) 2 wc w.heap.size (fun k_ => some k_ ≠ ((.slice Ao10 x8_1.length co10) : Value).ownBlock ∧ some k_ ≠ (u115003 : Value).ownBlock) (.slice Ao11 x7_1.length co11) x7_1) ∧ Zz (Kd.R (Kd.int .i64) 2 wc w.heap.size (fun k_ => some k_ ≠ ((.slice Ao11 x7_1.length co11) : Value).ownBlock ∧ some k_ ≠ (u115003 : Value).ownBlock) (.slice Ao10 x8_1.length co10) x8_1) ∧ Zz (Kd.R (Kd.int .i64) 2 wc w.heap.size (fun k_ => some k_ ≠ ((.slice Ao11 x7_1.length co11) : Value).ownBlock ∧ some k_ ≠ ((.slice Ao10 x8_1.length co10) : Value).ownBlock) u115003 x115003_1) ∧ Zz (wc.heap[gp0]? = some (.cells #[(.slice A0_0 l0_0.length c0_0)] 29 (0, 0))) ∧ Zz (wc.heap[gb101]? = some (.cells #[.int .i64 0, .int .i64 0, .int .i64 0, (.slice none 0 0)] 51 (0, 0))) ∧ Zz (wc.heap[gb114]? = some (.cells #[.int .i64 t108, .int .i64 t109, .int .i64 t110, u115003] 51 (0, 0))) ∧ Zz (Below w.heap.size w wc))
   case first =>
    have H := HC18.out
    clear HC18
    by_cases c19 : x10_1 < (x7_1.length : Int)
    ·rw [if_pos c19] at H
     have c19b0 : decide (x10_1 < (x7_1.length : Int)) = true := decide_eq_true c19
     (try rw [hl7_1] at c19b0)
     (try rw [hl8_1] at c19b0)
     clear c19
     (first | rw [c19b0] | (simp only [qA6, qBh]; rw [c19b0]) | skip)
     have H' := Zz.mk H
     clear H
     go_wp2
     go_meet
     case rel => exact ⟨_, (decide (a1 > 0)), E_, H', ⟨by have := HK1.out; first | omega | exact Nat.le_refl _⟩, ⟨by (try simp only [hl7_1]); (try simp only [hl8_1]); refine RW_ ?_; exact HO_7.out⟩, ⟨by (try simp only [hl7_1]); (try simp only [hl8_1]); refine RW_ ?_; exact HO_8.out⟩, ⟨by (try simp only [hl7_1]); (try simp only [hl8_1]); refine RW_ ?_; exact HO_115003.out⟩, ⟨by (try simp only [hl7_1]); (try simp only [hl8_1]); refine BW_ ?_; exact BK50.out⟩, ⟨by (try simp only [hl7_1]); (try simp only [hl8_1]); refine BW_ ?_; exact BK101.out⟩, ⟨by (try simp only [hl7_1]); (try simp only [hl8_1]); refine BW_ ?_; exact BK114.out⟩, ⟨B2_ HB.out GE101.out GE114.out⟩⟩
    rw [if_neg c19] at H
    have c19b0 : decide (x10_1 < (x7_1.length : Int)) = false := decide_eq_false c19
    (try rw [hl7_1] at c19b0)
    (try rw [hl8_1] at c19b0)
    clear c19
    (first | rw [c19b0] | (simp only [qA6, qBh]; rw [c19b0]) | skip)
    have H' := Zz.mk H
    clear H
    go_wp2
    go_meet
    case rel => exact ⟨_, (false), E_, H', ⟨by have := HK1.out; first | omega | exact Nat.le_refl _⟩, ⟨by (try simp only [hl7_1]); (try simp only [hl8_1]); refine RW_ ?_; exact HO_7.out⟩, ⟨by (try simp only [hl7_1]); (try simp only [hl8_1]); refine RW_ ?_; exact HO_8.out⟩, ⟨by (try simp only [hl7_1]); (try simp only [hl8_1]); refine RW_ ?_; exact HO_115003.out⟩, ⟨by (try simp only [hl7_1]); (try simp only [hl8_1]); refine BW_ ?_; exact BK50.out⟩, ⟨by (try simp only [hl7_1]); (try simp only [hl8_1]); refine BW_ ?_; exact BK101.out⟩, ⟨by (try simp only [hl7_1]); (try simp only [hl8_1]); refine BW_ ?_; exact BK114.out⟩, ⟨B2_ HB.out GE101.out GE114.out⟩⟩
   case rest =>
    clear HC18
    (try clear hcz16_0);(try clear hcz16_1);(try clear hcz16_2);(try clear hcz16_3);(try clear hfz16_0);(try clear hfz16_1);(try clear hfz16_2);(try clear hfz16_3)
    obtain ⟨kq, x33_17, rfl, HA, HJ17, HO_7, HO_8, HO_115003, BK50, BK101, BK114, HB⟩ := hcut
    cases kq with
    | zero => exact absurd HA.out (by simp [z32.j1])
    | succ kj17 =>
     have H := HA.out
     clear HA
     simp only [z32.j1] at H
     by_cases c20 : x33_17 = true
     ·subst c20
      have H1 : (if 0 ≤ x10_1 then (if x10_1 < (x7_1.length : Int) then ((z48.f kj17 l0_0 (rd x7_1 x10_1)).bind fun t116 => (z32.l1 kj17 a1 a2 x7_1 x8_1 x10_1 t116 0 l0_0 t108 t109 t110 x115003_1)) else (none)) else (none)) = some (r1, r2, r3, r4) := by rw [if_pos rfl] at H; exact H
      clear H
      have H := H1
      clear H1
      have c21 := O1_ H
      replace H := O2_ H
      have c21b0 := decide_eq_true c21
      (try rw [hl7_1] at c21b0)
      (try rw [hl8_1] at c21b0)
      clear c21
      have c22 := O1_ H
      replace H := O2_ H
      have c22b0 := decide_eq_true c22
      (try rw [hl7_1] at c22b0)
      (try rw [hl8_1] at c22b0)
      clear c22
      replace H := OB_ H
      obtain ⟨t116, A230, H⟩ := H
      replace H : (z32.l1 kj17 a1 a2 x7_1 x8_1 x10_1 t116 0 l0_0 t108 t109 t110 x115003_1) = some (r1, r2, r3, r4) := H
      have A23 := Zz.mk A230
      clear A230
      have H' := Zz.mk H
      clear H
      have p115 : 0 ≤ (x10_1 : Int) := D_
      have q115 : x10_1 < (x7_1.length : Int) := D_
      obtain ⟨ad115, e115, hx115_0⟩ := Kd.at_int (Kd.R_reads' HO_7.out).2.2 x10_1 p115 q115
      cases e115
      replace p115 := eq_true p115
      replace q115 := eq_true q115
      go_wp2_with (first | ((with_reducible refine gC_ (f := 48) rfl ?_); refine GL_ (some 41) rfl rfl Try.func48 #[.pointer (some ⟨gp0, 0, none⟩), .int .i64 (rd x7_1 x10_1)] rfl (h := ?_); (with_reducible refine (z48.calls kj17 gp0 A0_0 c0_0 l0_0 (rd x7_1 x10_1) t116 _ ?side1 ?side2 ?side3 A23.out).mono ?_); (case side1 => refine BW_ ?_; exact BK50.out); (case side2 => exact KC_ (Kd.C_below HR0_0.out HB.out)); (case side3 => exact HC0_0.out); rintro e w24 ⟨v117, rfl, ho0, hb⟩; refine ⟨_, rfl, ?_⟩; have HO118 := Zz.mk (Kd.R_lower (Kd.R_new' (Kd.R_new' (Kd.R_new' ho0 (Kd.R_lt (KR_ HO_7.out))) (Kd.R_lt (KR_ HO_8.out))) (Kd.R_lt (KR_ HO_115003.out))) (bS_ (B2_ HB.out GE101.out GE114.out))); replace HO_7 := Zz.mk (Kd.R_elder' (KR_ HO_7.out) (Kd.R_base ho0) hb); replace HO_8 := Zz.mk (Kd.R_elder' (KR_ HO_8.out) (Kd.R_base ho0) hb); replace HO_115003 := Zz.mk (Kd.R_elder' (KR_ HO_115003.out) (Kd.R_base ho0) hb); replace BK50 := Zz.mk (kb_ BK50.out hb); replace BK101 := Zz.mk (kb_ BK101.out hb); replace BK114 := Zz.mk (kb_ BK114.out hb); replace HB := Zz.mk (bT_ (B2_ HB.out GE101.out GE114.out) hb); (try clear hb); (try clear ho0)))
      go_loopg [12] kj17 (fun kq v12 w' => ∃ (x7_3 : List Int) (x8_3 : List Int) (x11_3 : List Int) (x12_3 : Int) (x115003_3 : List Int) (u115003 : Value), v12 = .int .i64 x12_3 ∧ Zz (z32.l1 kq a1 a2 x7_3 x8_3 x10_1 x11_3 x12_3 l0_0 t108 t109 t110 x115003_3 = some (r1, r2, r3, r4)) ∧ Zz (kq ≤ kj17) ∧ Zz (Kd.R (Kd.int .i64) 2 w' w.heap.size (fun k_ => some k_ ≠ ((.slice Ao10 x8_1.length co10) : Value).ownBlock ∧ some k_ ≠ (v117 : Value).ownBlock ∧ some k_ ≠ (u115003 : Value).ownBlock) (.slice (some ad115) x7_1.length co11) x7_3) ∧ Zz (Kd.R (Kd.int .i64) 2 w' w.heap.size (fun k_ => some k_ ≠ ((.slice (some ad115) x7_1.length co11) : Value).ownBlock ∧ some k_ ≠ (v117 : Value).ownBlock ∧ some k_ ≠ (u115003 : Value).ownBlock) (.slice Ao10 x8_1.length co10) x8_3) ∧ Zz (Kd.R (Kd.int .i64) 2 w' w.heap.size (fun k_ => some k_ ≠ ((.slice (some ad115) x7_1.length co11) : Value).ownBlock ∧ some k_ ≠ ((.slice Ao10 x8_1.length co10) : Value).ownBlock ∧ some k_ ≠ (u115003 : Value).ownBlock) v117 x11_3) ∧ Zz (Kd.R (Kd.int .i64) 2 w' w.heap.size (fun k_ => some k_ ≠ ((.slice (some ad115) x7_1.length co11) : Value).ownBlock ∧ some k_ ≠ ((.slice Ao10 x8_1.length co10) : Value).ownBlock ∧ some k_ ≠ (v117 : Value).ownBlock) u115003 x115003_3) ∧ Zz (w'.heap[gp0]? = some (.cells #[(.slice A0_0 l0_0.length c0_0)] 29 (0, 0))) ∧ Zz (w'.heap[gb101]? = some (.cells #[.int .i64 0, .int .i64 0, .int .i64 0, (.slice none 0 0)] 51 (0, 0))) ∧ Zz (w'.heap[gb114]? = some (.cells #[.int .i64 t108, .int .i64 t109, .int .i64 t110, u115003] 51 (0, 0))) ∧ Zz (Below w.heap.size w w'))
      case atStart => exact ⟨(x7_1), (x8_1), (t116), (0), (x115003_1), (u115003), E_, H', ⟨Nat.le_refl _⟩, ⟨by (try simp only [hl7_1]); (try simp only [hl8_1]); refine RW_ ?_; exact Kd.R_mono HO_7.out (fun _ hk => ⟨hk.1.1, ⟨hk.2, hk.1.2⟩⟩)⟩, ⟨by (try simp only [hl7_1]); (try simp only [hl8_1]); refine RW_ ?_; exact Kd.R_mono HO_8.out (fun _ hk => ⟨hk.1.1, ⟨hk.2, hk.1.2⟩⟩)⟩, ⟨by (try simp only [hl7_1]); (try simp only [hl8_1]); refine RW_ ?_; exact Kd.R_mono HO118.out (fun _ hk => ⟨hk.1.1.2, ⟨hk.1.2, hk.2⟩⟩)⟩, ⟨by (try simp only [hl7_1]); (try simp only [hl8_1]); refine RW_ ?_; exact Kd.R_mono HO_115003.out (fun _ hk => ⟨hk.1.1, ⟨hk.1.2, hk.2⟩⟩)⟩, ⟨by (try simp only [hl7_1]); (try simp only [hl8_1]); refine BW_ ?_; exact BK50.out⟩, ⟨by (try simp only [hl7_1]); (try simp only [hl8_1]); refine BW_ ?_; exact BK101.out⟩, ⟨by (try simp only [hl7_1]); (try simp only [hl8_1]); refine BW_ ?_; exact BK114.out⟩, ⟨B2_ HB.out GE101.out GE114.out⟩⟩
      case round =>
       clear H'
       (try clear c20);(try clear c21);(try clear c21b0);(try clear c22);(try clear c22b0);(try clear hcz16_0);(try clear hcz16_1);(try clear hcz16_2);(try clear hcz16_3);(try clear hfz16_0);(try clear hfz16_1);(try clear hfz16_2);(try clear hfz16_3);(try clear hx115_0);(try clear p115);(try clear q115)
       obtain ⟨x7_3, x8_3, x11_3, x12_3, x115003_3, u115003, rfl, HA, HK3, HO_7, HO_8, HO_11, HO_115003, BK50, BK101, BK114, HB⟩ := hrel
       have hl7_3 := (Kd.R_reads' HO_7.out).1
       rw [hl7_3] at HO_7
       (try simp only [hl7_3])
       (try simp only [hl7_3] at BK50)
       (try simp only [hl7_3] at BK101)
       (try simp only [hl7_3] at BK114)
       (try simp only [hl7_3] at HO_8)
       (try simp only [hl7_3] at HO_11)
       (try simp only [hl7_3] at HO_115003)
       have hl8_3 := (Kd.R_reads' HO_8.out).1
       rw [hl8_3] at HO_8
       (try simp only [hl8_3])
       (try simp only [hl8_3] at BK50)
       (try simp only [hl8_3] at BK101)
       (try simp only [hl8_3] at BK114)
       (try simp only [hl8_3] at HO_7)
       (try simp only [hl8_3] at HO_11)
       (try simp only [hl8_3] at HO_115003)
       cases gk with
       | zero => exact absurd HA.out (by simp [z32.l1])
       | succ k3 =>
        have H := HA.out
        clear HA
        simp only [z32.l1] at H
        by_cases c25 : x12_3 < (x11_3.length : Int)
        ·rw [if_pos c25] at H
         have c25b0 : decide (x12_3 < (x11_3.length : Int)) = true := decide_eq_true c25
         (try rw [hl7_1] at c25b0)
         (try rw [hl8_1] at c25b0)
         (try rw [hl7_3] at c25b0)
         (try rw [hl8_3] at c25b0)
         clear c25
         have c26 := O1_ H
         replace H := O2_ H
         have c26b0 := decide_eq_true c26
         (try rw [hl7_1] at c26b0)
         (try rw [hl8_1] at c26b0)
         (try rw [hl7_3] at c26b0)
         (try rw [hl8_3] at c26b0)
         clear c26
         have c27 := O1_ H
         replace H := O2_ H
         have c27b0 := decide_eq_true c27
         have c27b1 : decide (0 < x8_3.length) = true := decide_eq_true (by omega)
         (try rw [hl7_1] at c27b0)
         (try rw [hl7_1] at c27b1)
         (try rw [hl8_1] at c27b0)
         (try rw [hl8_1] at c27b1)
         (try rw [hl7_3] at c27b0)
         (try rw [hl7_3] at c27b1)
         (try rw [hl8_3] at c27b0)
         (try rw [hl8_3] at c27b1)
         clear c27
         replace H := OB_ H
         obtain ⟨t121, A280, H⟩ := H
         replace H : (if 0 ≤ (wrap64 ((wrap64 ((wrap64 ((rd x11_3 x12_3) - (rd x8_3 0))) * t110)) + x10_1)) then (if (wrap64 ((wrap64 ((wrap64 ((rd x11_3 x12_3) - (rd x8_3 0))) * t110)) + x10_1)) < (x115003_3.length : Int) then (z32.l1 k3 a1 a2 x7_3 x8_3 x10_1 x11_3 (wrap64 (x12_3 + 1)) l0_0 t108 t109 t110 (x115003_3.set ((wrap64 ((wrap64 ((wrap64 ((rd x11_3 x12_3) - (rd x8_3 0))) * t110)) + x10_1)) : Int).toNat t121)) else (none)) else (none)) = some (r1, r2, r3, r4) := H
         have A28 := Zz.mk A280
         clear A280
         obtain ⟨ji29, hji29⟩ : ∃ j_ : Int, (wrap64 ((wrap64 ((wrap64 ((rd x11_3 x12_3) - (rd x8_3 0))) * t110)) + x10_1)) = j_ := ⟨_, rfl⟩
         replace H : (if 0 ≤ (ji29) then (if (ji29) < (x115003_3.length : Int) then (z32.l1 k3 a1 a2 x7_3 x8_3 x10_1 x11_3 (wrap64 (x12_3 + 1)) l0_0 t108 t109 t110 (x115003_3.set ((ji29) : Int).toNat t121)) else (none)) else (none)) = some (r1, r2, r3, r4) := by first | (rw [hji29] at H; exact H) | (simp only [hji29] at H ⊢; exact H)
         (try rw [hji29] at A28)
         have hji29w : (IntKind.i64.wrap ((wrap64 ((wrap64 ((rd x11_3 x12_3) - (rd x8_3 0))) * t110)) + x10_1)) = ji29 := (qA6 _).trans hji29
         have c30 := O1_ H
         replace H := O2_ H
         have c30b0 := decide_eq_true c30
         (try rw [hl7_1] at c30b0)
         (try rw [hl8_1] at c30b0)
         (try rw [hl7_3] at c30b0)
         (try rw [hl8_3] at c30b0)
         clear c30
         have c31 := O1_ H
         replace H := O2_ H
         have c31b0 := decide_eq_true c31
         (try rw [hl7_1] at c31b0)
         (try rw [hl8_1] at c31b0)
         (try rw [hl7_3] at c31b0)
         (try rw [hl8_3] at c31b0)
         clear c31
         obtain ⟨y122, hy122⟩ : ∃ y_ : List Int, y_ = (x115003_3.set ((ji29) : Int).toNat t121) := ⟨_, rfl⟩
         replace H : (z32.l1 k3 a1 a2 x7_3 x8_3 x10_1 x11_3 (wrap64 (x12_3 + 1)) l0_0 t108 t109 t110 y122) = some (r1, r2, r3, r4) := Y_ hy122 H
         have Ny122 := Zz.mk hy122
         clear hy122
         have H' := Zz.mk H
         clear H
         obtain ⟨Ao33, co33, eo33⟩ := Kd.R_slice HO_11.out
         subst eo33
         try go_wp2
         replace HO_7 := Zz.mk (Kd.R_drew HO_7.out)
         replace HO_8 := Zz.mk (Kd.R_drew HO_8.out)
         replace HO_11 := Zz.mk (Kd.R_drew HO_11.out)
         replace HO_115003 := Zz.mk (Kd.R_drew HO_115003.out)
         replace BK50 := Zz.mk (bD_ BK50.out)
         replace BK101 := Zz.mk (bD_ BK101.out)
         replace BK114 := Zz.mk (bD_ BK114.out)
         replace HB := Zz.mk (qAq HB.out)
         have p119 : 0 ≤ (x12_3 : Int) := D_
         have q119 : x12_3 < (x11_3.length : Int) := D_
         obtain ⟨ad119, e119, hx119_0⟩ := Kd.at_int (Kd.R_reads' HO_11.out).2.2 x12_3 p119 q119
         cases e119
         replace p119 := eq_true p119
         replace q119 := eq_true q119
         have p120 : 0 ≤ (0 : Int) := (by omega)
         have q120 : 0 < (x8_3.length : Int) := D_
         obtain ⟨ad120, e120, hx120_0⟩ := Kd.at_int (Kd.R_reads' HO_8.out).2.2 0 p120 q120
         cases e120
         have qi120 : (0 < x8_3.length) = True := eq_true (by omega)
         (try rw [show ((0 : Int)).toNat = 0 from rfl] at hx120_0)
         (try rw [Addr.add_zero'] at hx120_0)
         replace p120 := eq_true p120
         replace q120 := eq_true q120
         refine qBx (n := 20) (S := fun w' => w'.cell? ⟨gb114, 0, none⟩ = some (.int .i64 t108) ∧ w'.cell? ⟨gb114, 1, none⟩ = some (.int .i64 t109) ∧ w'.cell? ⟨gb114, 2, none⟩ = some (.int .i64 t110) ∧ w'.cell? ⟨gb114, 3, none⟩ = some (u115003) ∧ w'.cell? (ad119.add (x12_3).toNat) = some (.int .i64 (rd x11_3 x12_3)) ∧ w'.cell? ad120 = some (.int .i64 (rd x8_3 0))) (ds := [19]) (tb_ 20 0) (by kernel_rfl) rfl rfl ⟨(bC_ BK114.out 0).trans rfl, (bC_ BK114.out 1).trans rfl, (bC_ BK114.out 2).trans rfl, (bC_ BK114.out 3).trans rfl, hx119_0, hx120_0⟩ (fun hHeld => ?_); refine qA7 z32.tab11 z32.bits11 (fun HT_ HW_ => ?_)
         generalize wr.drew = w34 at HO_7 HO_8 HO_11 HO_115003 BK50 BK101 BK114 HB hx119_0 hx120_0 hHeld ⊢
         refine PX_ 0 48 (tb_ 20 1) HT_ rfl rfl ?_
         refine PX_ 2 50 (tb_ 20 5) HT_ rfl rfl ?_
         refine PX_ 3 51 (tb_ 20 13) HT_ rfl rfl ?_
         refine PX_ 4 52 (tb_ 20 29) HT_ rfl rfl ?_
         refine PX_ 6 54 (tb_ 20 93) HT_ rfl rfl ?_
         refine PX_ 7 55 (tb_ 20 221) HT_ rfl rfl ?_
         refine PX_ 10 58 (tb_ 20 1245) HT_ rfl rfl ?_
         refine PX_ 13 61 (tb_ 20 9437) HT_ rfl rfl ?_
         refine PX_ 15 63 (tb_ 20 42205) HT_ rfl rfl ?_
         refine PX_ 16 64 (tb_ 20 107741) HT_ rfl rfl ?_
         refine TV_ (i := 1) (N := some 49) (tb_ 20 107743) HT_ HW_ rfl rfl hHeld (by rintro w' ⟨s0, s1, s2, s3, s4, s5⟩; go_simp; with_reducible rfl) (h := ?_)
         refine TV_ (i := 5) (N := some 53) (tb_ 20 107775) HT_ HW_ rfl rfl hHeld (by rintro w' ⟨s0, s1, s2, s3, s4, s5⟩; go_simp; with_reducible rfl) (h := ?_)
         refine TV_ (i := 8) (N := some 56) (tb_ 20 108031) HT_ HW_ rfl rfl hHeld (by rintro w' ⟨s0, s1, s2, s3, s4, s5⟩; go_simp; with_reducible rfl) (h := ?_)
         refine PX_ 9 57 (tb_ 20 108543) HT_ rfl rfl ?_
         refine TV_ (i := 11) (N := some 59) (tb_ 20 110591) HT_ HW_ rfl rfl hHeld (by rintro w' ⟨s0, s1, s2, s3, s4, s5⟩; go_simp; with_reducible rfl) (h := ?_)
         refine PX_ 12 60 (tb_ 20 114687) HT_ rfl rfl ?_
         refine PX_ 14 62 (tb_ 20 131071) HT_ rfl rfl ?_
         refine one_ (i := 17) (N := some 65) (tb_ 20 262143) rfl rfl (qA5 HT_.out (by kernel_rfl)) (by decide) (fun K hK => ?_)
         refine GO_ Try.func49 #[.int .i64 x12_3, .int .i64 a2] (h := ?_)
         with_reducible refine (z49.calls x12_3 a2 t121 _ A28.out).mono ?_
         rintro e w' ⟨rfl, ⟨nd, rfl⟩⟩
         refine ⟨_, rfl, ?_⟩
         have p32 : 0 ≤ ((ji29) : Int) := D_
         have q32 : ((ji29) : Int) < ((x115003_3.length : Int) : Int) := D_
         obtain ⟨go32, co32, eo32, gb32, gl32, cl32, HG32⟩ := Kd.R_form HO_115003.out (by omega)
         (first | cases eo32 | (injection eo32 with ea_ en_ ec_; (first | subst ea_ | (injection ea_ with ea_; subst ea_)); subst ec_; clear en_))
         have GB32 := Zz.mk gb32
         have GG32 := Zz.mk HG32
         clear gb32 gl32 HG32
         obtain ⟨hx32_0, hf32_0⟩ := Kd.R_celln 0 HO_115003.out ((ji29) : Int) p32 q32
         replace p32 := eq_true p32
         replace q32 := eq_true q32
         have HP35 := Kd.R_putn HO_115003.out ((ji29) : Int) t121
         rw [← Ny122.out] at HP35
         have HQ35 := Zz.mk HP35
         clear HP35
         refine hK.out _ _ ⟨(bC_ BK114.out 0).trans rfl, (bC_ BK114.out 1).trans rfl, (bC_ BK114.out 2).trans rfl, (bC_ BK114.out 3).trans rfl, hHeld.2.2.2.2.1, hHeld.2.2.2.2.2⟩ (fun hHeld => ?_)
         clear hK K
         refine NM_ (N := (some 65)) (h := ?_)
         refine PX_ 18 66 (tb_ 20 524287) HT_ rfl rfl ?_
         refine qEs (i := 19) (N := none) (tb_ 20 1048575) rfl rfl (qA5 HT_.out (by kernel_rfl)) (by decide) (fun K hK => ?_)
         refine qD2 (w1 := ?_) (by rfl) rfl ?_ ?_
         rotate_left
         ·go_simp
          rfl
         refine hK.out _ _ ?_
         clear hK K
         refine qCp (qBq HT_.out (by kernel_rfl)) ?_
         try go_wp2
         (try simp only [← hl7_3, ← hl8_3])
         go_roundg k3
         case measure => have := HK1.out; have := HJ17.out; have := HK3.out; omega
         case rel => exact ⟨(x7_3), (x8_3), (x11_3), (wrap64 (x12_3 + 1)), (y122), (.slice (some ⟨go32, 0, none⟩) x115003_3.length co32), E_, H', ⟨by have := HK1.out; have := HJ17.out; have := HK3.out; omega⟩, ⟨by (try simp only [hl7_1]); (try simp only [hl8_1]); (try simp only [hl7_3]); (try simp only [hl8_3]); refine RW_ ?_; exact Kd.R_mono (Kd.R_far (p := ⟨go32, ((ji29) : Int).toNat, none⟩) (Kd.R_mono HO_7.out (fun k_ hk => (⟨hk, fun e_ => hk.2.2 (by rw [e_]; rfl)⟩ : _ ∧ k_ ≠ go32))) (fun _ hk => hk.2) (.int .i64 t121)) (fun _ hk => ⟨hk.1.1, ⟨hk.1.2.1, hk.1.2.2⟩⟩)⟩, ⟨by (try simp only [hl7_1]); (try simp only [hl8_1]); (try simp only [hl7_3]); (try simp only [hl8_3]); refine RW_ ?_; exact Kd.R_mono (Kd.R_far (p := ⟨go32, ((ji29) : Int).toNat, none⟩) (Kd.R_mono HO_8.out (fun k_ hk => (⟨hk, fun e_ => hk.2.2 (by rw [e_]; rfl)⟩ : _ ∧ k_ ≠ go32))) (fun _ hk => hk.2) (.int .i64 t121)) (fun _ hk => ⟨hk.1.1, ⟨hk.1.2.1, hk.1.2.2⟩⟩)⟩, ⟨by (try simp only [hl7_1]); (try simp only [hl8_1]); (try simp only [hl7_3]); (try simp only [hl8_3]); refine RW_ ?_; exact Kd.R_mono (Kd.R_far (p := ⟨go32, ((ji29) : Int).toNat, none⟩) (Kd.R_mono HO_11.out (fun k_ hk => (⟨hk, fun e_ => hk.2.2 (by rw [e_]; rfl)⟩ : _ ∧ k_ ≠ go32))) (fun _ hk => hk.2) (.int .i64 t121)) (fun _ hk => ⟨hk.1.1, ⟨hk.1.2.1, hk.1.2.2⟩⟩)⟩, ⟨by (try simp only [hl7_1]); (try simp only [hl8_1]); (try simp only [hl7_3]); (try simp only [hl8_3]); refine RW_ ?_; exact HQ35.out⟩, ⟨by (try simp only [hl7_1]); (try simp only [hl8_1]); (try simp only [hl7_3]); (try simp only [hl8_3]); refine BW_ ?_; refine bR_ ?_ (by have h_ := Kd.R_ne HO_115003.out BK50.out (by decide); intro e_; exact h_ (by rw [e_]; rfl)) _; refine BW_ ?_; exact BK50.out⟩, ⟨by (try simp only [hl7_1]); (try simp only [hl8_1]); (try simp only [hl7_3]); (try simp only [hl8_3]); refine BW_ ?_; refine bR_ ?_ (by have h_ := Kd.R_ne HO_115003.out BK101.out (by decide); intro e_; exact h_ (by rw [e_]; rfl)) _; refine BW_ ?_; exact BK101.out⟩, ⟨by (try simp only [hl7_1]); (try simp only [hl8_1]); (try simp only [hl7_3]); (try simp only [hl8_3]); refine BW_ ?_; refine bR_ ?_ (by have h_ := Kd.R_ne HO_115003.out BK114.out (by decide); intro e_; exact h_ (by rw [e_]; rfl)) _; refine BW_ ?_; exact BK114.out⟩, ⟨B3_ HB.out GB32.out GE101.out GE114.out⟩⟩
        rw [if_neg c25] at H
        have c25b0 : decide (x12_3 < (x11_3.length : Int)) = false := decide_eq_false c25
        (try rw [hl7_1] at c25b0)
        (try rw [hl8_1] at c25b0)
        (try rw [hl7_3] at c25b0)
        (try rw [hl8_3] at c25b0)
        clear c25
        have H' := Zz.mk H
        clear H
        obtain ⟨Ao36, co36, eo36⟩ := Kd.R_slice HO_11.out
        subst eo36
        go_wp2
        (try simp only [← hl7_1, ← hl8_1, ← hl7_3, ← hl8_3])
        go_roundg k3
        case measure => have := HK1.out; have := HJ17.out; have := HK3.out; omega
        case rel => exact ⟨(x7_3), (x8_3), (wrap64 (x10_1 + 1)), (x115003_3), (u115003), E_, H', ⟨by have := HK1.out; have := HJ17.out; have := HK3.out; omega⟩, ⟨by (try simp only [hl7_1]); (try simp only [hl8_1]); (try simp only [hl7_3]); (try simp only [hl8_3]); refine RW_ ?_; exact Kd.R_mono HO_7.out (fun _ hk => ⟨hk.1, hk.2.2⟩)⟩, ⟨by (try simp only [hl7_1]); (try simp only [hl8_1]); (try simp only [hl7_3]); (try simp only [hl8_3]); refine RW_ ?_; exact Kd.R_mono HO_8.out (fun _ hk => ⟨hk.1, hk.2.2⟩)⟩, ⟨by (try simp only [hl7_1]); (try simp only [hl8_1]); (try simp only [hl7_3]); (try simp only [hl8_3]); refine RW_ ?_; exact Kd.R_mono HO_115003.out (fun _ hk => ⟨hk.1, hk.2.1⟩)⟩, ⟨by (try simp only [hl7_1]); (try simp only [hl8_1]); (try simp only [hl7_3]); (try simp only [hl8_3]); refine BW_ ?_; exact BK50.out⟩, ⟨by (try simp only [hl7_1]); (try simp only [hl8_1]); (try simp only [hl7_3]); (try simp only [hl8_3]); refine BW_ ?_; exact BK101.out⟩, ⟨by (try simp only [hl7_1]); (try simp only [hl8_1]); (try simp only [hl7_3]); (try simp only [hl8_3]); refine BW_ ?_; exact BK114.out⟩, ⟨B2_ HB.out GE101.out GE114.out⟩⟩
     replace c20 := Bool.eq_false_iff.mpr c20
     subst c20
     have H1 : (some (t108, t109, t110, x115003_1)) = some (r1, r2, r3, r4) := by rw [if_neg (show ¬ (false = true) by decide)] at H; exact H
     clear H
     have H := H1
     clear H1
     simp only [Option.some.injEq, Prod.mk.injEq] at H
     obtain ⟨rfl, rfl, rfl, rfl⟩ := H
     have hnb37 := NB114_50.out
     have hnc37 := NB50_114.out
     have hnb38 := NB114_101.out
     have hnc38 := NB101_114.out
     obtain ⟨hcz39_0, hcz39_1, hcz39_2, hcz39_3, hfz39_0, hfz39_1, hfz39_2, hfz39_3⟩ := Z4f_ BK114.out
     have hnb40 := NB101_50.out
     have hnc40 := NB50_101.out
     obtain ⟨hcz41_0, hcz41_1, hcz41_2, hcz41_3, hfz41_0, hfz41_1, hfz41_2, hfz41_3⟩ := Z4f_ BK101.out
     obtain ⟨Ao42, co42, eo42⟩ := Kd.R_slice HO_115003.out
     subst eo42
     go_wp2
     refine bodyPost_ret (results_cell_row rfl _ _ gb101 51 #[.int .i64 t108, .int .i64 t109, .int .i64 t110, .slice Ao42 x115003_1.length co42] (0, 0) _ rfl (by refine BW_ ?_; refine bP_ (cs := #[.int .i64 t108, .int .i64 t109, .int .i64 t110, .slice none 0 0]) ?_ 3 _ rfl; refine BW_ ?_; refine bP_ (cs := #[.int .i64 t108, .int .i64 t109, .int .i64 0, .slice none 0 0]) ?_ 2 _ rfl; refine BW_ ?_; refine bP_ (cs := #[.int .i64 t108, .int .i64 0, .int .i64 0, .slice none 0 0]) ?_ 1 _ rfl; refine BW_ ?_; refine bP_ (cs := #[.int .i64 0, .int .i64 0, .int .i64 0, .slice none 0 0]) ?_ 0 _ rfl; refine BW_ ?_; exact BK101.out) Try.underlying51 rfl (by kernel_rfl)) rfl ?_
     exact ⟨_, F_, by refine RW_ ?_; exact Kd.R_mono (Kd.R_far (p := ⟨gb101, 3, none⟩) (Kd.R_far (p := ⟨gb101, 2, none⟩) (Kd.R_far (p := ⟨gb101, 1, none⟩) (Kd.R_far (p := ⟨gb101, 0, none⟩) (Kd.R_types HO_115003.out BK101.out (by decide)) (fun _ hk => hk.2) (.int .i64 t108)) (fun _ hk => hk.2) (.int .i64 t109)) (fun _ hk => hk.2) (.int .i64 t110)) (fun _ hk => hk.2) (.slice Ao42 x115003_1.length co42)) (fun _ hk => trivial), B2_ HB.out GE101.out GE114.out⟩
end Go.Proofs.Ytpgjfppbbbnclaa.B
