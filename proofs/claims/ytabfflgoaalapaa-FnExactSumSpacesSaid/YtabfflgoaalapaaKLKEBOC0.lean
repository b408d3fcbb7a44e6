/- Printed proofs of functions of the program and of the reference, by a program of this work over the kit's printer. -/
import Derived.Test.YtabfflgoaalapaaKCDNFKH0
import Derived.Test.YtabfflgoaalapaaKDFHBLC0
import Derived.Test.YtabfflgoaalapaaKENHNJJ0
import Derived.Test.YtabfflgoaalapaaKFMJCKG0
import Derived.Test.YtabfflgoaalapaaKGMFEED0
import Derived.Test.YtabfflgoaalapaaKW0
namespace Go.Proofs.Ytabfflgoaalapaa.B
open Go.RowKit Go.Proofs.YtabfflgoaalapaaW.PrintWords Go.Proofs.YtabfflgoaalapaaW.PrintLast Go.Proofs.YtabfflgoaalapaaW.PrintMore
attribute [local go_sem] max2_int min2_int max_two min_two max_three min_three max_four min_four
set_option linter.unusedVariables false
set_option linter.unusedSimpArgs false
def z4.f (k : Nat) (a0_0 : Int) (a0_1 : Int) (l0_2 : List (List Int)) (a1_0 : Int) (a1_1 : Int) (l1_2 : List (List Int)) : Option (Bool) := (z11.f k a0_0 a0_1 l0_2 1048576).bind fun t103 => (if t103 < 0 then (some true) else ((z11.f k a1_0 a1_1 l1_2 t103).bind fun t104 => (if t104 < 0 then (some true) else ((z13.f k a0_0 a0_1 l0_2).bind fun bt105 => ((z13.f k a1_0 a1_1 l1_2).bind fun bt110 => ((z21.f k bt105.1 bt105.2.1 bt105.2.2 bt110.1 bt110.2.1 bt110.2.2).bind fun bt115 => ((z13.f k a0_0 a0_1 l0_2).bind fun bt122 => ((z13.f k a1_0 a1_1 l1_2).bind fun bt128 => ((z22.f k bt122.1 bt122.2.1 bt122.2.2 bt128.1 bt128.2.1 bt128.2.2).bind fun bt134 => ((z17.f k bt134.1 bt134.2.1 bt134.2.2.1 bt115.1 bt115.2.1 bt115.2.2.1).bind fun t141 => (if t141 = true then (if bt134.2.2.2 = bt115.2.2.2 then ((z13.f k a0_0 a0_1 l0_2).bind fun bt142 => ((z17.f k bt122.1 bt122.2.1 bt122.2.2 bt142.1 bt142.2.1 bt142.2.2).bind fun t147 => (if t147 = true then ((z13.f k a1_0 a1_1 l1_2).bind fun bt148 => ((z17.f k bt128.1 bt128.2.1 bt128.2.2 bt148.1 bt148.2.1 bt148.2.2).bind fun t153 => (if t153 = true then ((laws_markSpace.f bt122.1 bt122.2.1 bt122.2.2 1).bind fun bt154 => ((laws_markSpace.f bt128.1 bt128.2.1 bt128.2.2 bt154.1).bind fun bt156 => (if bt156.1 < 0 then (some false) else ((z17.f k bt134.1 bt134.2.1 bt134.2.2.1 bt115.1 bt115.2.1 bt115.2.2.1).bind fun t158 => (if t158 = true then ((laws_markSpace.f bt134.1 bt134.2.1 bt134.2.2.1 1).bind fun bt159 => ((z23.f k bt134.1 bt134.2.1 bt159.2 1).bind fun t161 => (if t161 < 0 then (some false) else (if t161 = bt159.1 then ((z13.f k a0_0 a0_1 l0_2).bind fun bt162 => ((z13.f k a1_0 a1_1 l1_2).bind fun bt167 => ((z22.f k bt162.1 bt162.2.1 bt162.2.2 bt167.1 bt167.2.1 bt167.2.2).bind fun bt172 => ((z17.f k bt172.1 bt172.2.1 bt172.2.2.1 bt115.1 bt115.2.1 bt115.2.2.1).bind fun t179 => (if t179 = true then (if bt172.2.2.2 = bt115.2.2.2 then ((z23.f k bt134.1 bt134.2.1 bt159.2 1).bind fun t180 => (if t180 < 0 then (some false) else (if t180 = bt159.1 then (some true) else (some false)))) else (some false)) else (some false)))))) else (some false))))) else (some false)))))) else (some false)))) else (some false)))) else (some false)) else (some false))))))))))))
def z4.T8 : Bool × List (List Nat × List Nat) := (true, [([], []), ([0], [0]), ([], []), ([2, 1], [2]), ([1, 3, 3], [1, 3]), ([4], [4]), ([5], [5]), ([5], [5]), ([], []), ([8, 6, 4, 0, 1, 2, 3, 4, 5, 6, 8], [6, 8]), ([7, 9, 0, 1, 2, 3, 4, 5, 6, 7, 8, 9], [7])])
def z4.B8 : List Nat := [0, 1, 0, 7, 15, 31, 63, 63, 0, 383, 1023]
theorem z4.tab8 : rtab .any (opsOf Try.f4 8) = z4.T8 := by kernel_rfl
theorem z4.bits8 : waitsOk z4.T8.2 z4.B8 = true := by kernel_rfl
def z4.T31 : Bool × List (List Nat × List Nat) := (true, [([], []), ([0], [0]), ([], []), ([2, 1], [2]), ([1, 3, 3], [1, 3]), ([4], [4]), ([5], [5]), ([5], [5]), ([], []), ([8, 6, 4, 0, 1, 2, 3, 4, 5, 6, 8], [6, 8]), ([7, 9, 0, 1, 2, 3, 4, 5, 6, 7, 8, 9], [7])])
def z4.B31 : List Nat := [0, 1, 0, 7, 15, 31, 63, 63, 0, 383, 1023]
theorem z4.tab31 : rtab .any (opsOf Try.f4 31) = z4.T31 := by kernel_rfl
theorem z4.bits31 : waitsOk z4.T31.2 z4.B31 = true := by kernel_rfl
set_option maxHeartbeats 8000000 in
set_option maxRecDepth 100000 in
theorem z4.calls (k : Nat) (a0_0 : Int) (a0_1 : Int) (A0_2 : Option Addr) (c0_2 : Nat) (l0_2 : List (List Int)) (a1_0 : Int) (a1_1 : Int) (A1_2 : Option Addr) (c1_2 : Nat) (l1_2 : List (List Int)) (r : Bool) (w : World) (hr0_2 : Kd.C (Kd.slice 2 (Kd.int .i64)) w A0_2 l0_2.length l0_2) (hc0_2 : l0_2.length ≤ c0_2) (hr1_2 : Kd.C (Kd.slice 2 (Kd.int .i64)) w A1_2 l1_2.length l1_2) (hc1_2 : l1_2.length ≤ c1_2) (h : z4.f k a0_0 a0_1 l0_2 a1_0 a1_1 l1_2 = some r) (ht_ : r = true) :
  Calls Try.prog 4 #[.agg #[.int .i64 a0_0, .int .i64 a0_1, .slice A0_2 l0_2.length c0_2], .agg #[.int .i64 a1_0, .int .i64 a1_1, .slice A1_2 l1_2.length c1_2]] w fun e w' => e = .returned (.bool r) ∧ Below w.heap.size w w' := by
 have hu24 := Try.underlying24
 have hu29 := Try.underlying29
 have HR0_2 := Zz.mk hr0_2
 have HC0_2 := Zz.mk hc0_2
 clear hr0_2 hc0_2
 have HR1_2 := Zz.mk hr1_2
 have HC1_2 := Zz.mk hc1_2
 clear hr1_2 hc1_2
 have HB := Zz.mk (Below.refl w.heap.size w)
 have H : ((z11.f k a0_0 a0_1 l0_2 1048576).bind fun t103 => (if t103 < 0 then (some true) else ((z11.f k a1_0 a1_1 l1_2 t103).bind fun t104 => (if t104 < 0 then (some true) else ((z13.f k a0_0 a0_1 l0_2).bind fun bt105 => ((z13.f k a1_0 a1_1 l1_2).bind fun bt110 => ((z21.f k bt105.1 bt105.2.1 bt105.2.2 bt110.1 bt110.2.1 bt110.2.2).bind fun bt115 => ((z13.f k a0_0 a0_1 l0_2).bind fun bt122 => ((z13.f k a1_0 a1_1 l1_2).bind fun bt128 => ((z22.f k bt122.1 bt122.2.1 bt122.2.2 bt128.1 bt128.2.1 bt128.2.2).bind fun bt134 => ((z17.f k bt134.1 bt134.2.1 bt134.2.2.1 bt115.1 bt115.2.1 bt115.2.2.1).bind fun t141 => (if t141 = true then (if bt134.2.2.2 = bt115.2.2.2 then ((z13.f k a0_0 a0_1 l0_2).bind fun bt142 => ((z17.f k bt122.1 bt122.2.1 bt122.2.2 bt142.1 bt142.2.1 bt142.2.2).bind fun t147 => (if t147 = true then ((z13.f k a1_0 a1_1 l1_2).bind fun bt148 => ((z17.f k bt128.1 bt128.2.1 bt128.2.2 bt148.1 bt148.2.1 bt148.2.2).bind fun t153 => (if t153 = true then ((laws_markSpace.f bt122.1 bt122.2.1 bt122.2.2 1).bind fun bt154 => ((laws_markSpace.f bt128.1 bt128.2.1 bt128.2.2 bt154.1).bind fun bt156 => (if bt156.1 < 0 then (some false) else ((z17.f k bt134.1 bt134.2.1 bt134.2.2.1 bt115.1 bt115.2.1 bt115.2.2.1).bind fun t158 => (if t158 = true then ((laws_markSpace.f bt134.1 bt134.2.1 bt134.2.2.1 1).bind fun bt159 => ((z23.f k bt134.1 bt134.2.1 bt159.2 1).bind fun t161 => (if t161 < 0 then (some false) else (if t161 = bt159.1 then ((z13.f k a0_0 a0_1 l0_2).bind fun bt162 => ((z13.f k a1_0 a1_1 l1_2).bind fun bt167 => ((z22.f k bt162.1 bt162.2.1 bt162.2.2 bt167.1 bt167.2.1 bt167.2.2).bind fun bt172 => ((z17.f k bt172.1 bt172.2.1 bt172.2.2.1 bt115.1 bt115.2.1 bt115.2.2.1).bind fun t179 => (if t179 = true then (if bt172.2.2.2 = bt115.2.2.2 then ((z23.f k bt134.1 bt134.2.1 bt159.2 1).bind fun t180 => (if t180 < 0 then (some false) else (if t180 = bt159.1 then (some true) else (some false)))) else (some false)) else (some false)))))) else (some false))))) else (some false)))))) else (some false)))) else (some false)))) else (some false)) else (some false))))))))))))) = some r := h
 clear h
 replace H := OZ_ H
 obtain ⟨t103, A3, H⟩ := H
 by_cases c4 : t103 < 0
 ·rw [if_pos c4] at H
  have c4b0 : decide (t103 < 0) = true := decide_eq_true c4
  clear c4
  obtain rfl := OI_ H
  go_enter Try.func4, Try.ntmps4
  go_wp2_with (first | ((with_reducible refine gate_dst (N := 2) rfl ?_); refine box_event ?hg (N := 2) ?hd (cs := #[.int .i64 a0_0, .int .i64 a0_1, .slice A0_2 l0_2.length c0_2]) (t := 24) ?hr ?_; (case hd => rfl); (case hg => rfl); (case hr => first | (go_simp; done) | (go_simp; rfl)); intro gb101 hg w5 hbox hb; have BK101 := Zz.mk (hbox); have GW101 := Zz.mk ((by rw [hg]; exact (bS_ (B_ HB.out)) : w.heap.size ≤ gb101)); have GE101 := GW101; replace HB := Zz.mk (bT_ (B_ HB.out) hb); clear hb hbox hg) | ((with_reducible refine gate_dst (N := 3) rfl ?_); refine box_event ?hg (N := 3) ?hd (cs := #[.int .i64 a1_0, .int .i64 a1_1, .slice A1_2 l1_2.length c1_2]) (t := 24) ?hr ?_; (case hd => rfl); (case hg => rfl); (case hr => first | (go_simp; done) | (go_simp; rfl)); intro gb102 hg w6 hbox hb; have BK102 := Zz.mk (hbox); have GW102 := Zz.mk ((by rw [hg]; exact (bS_ (B1_ HB.out GE101.out)) : w.heap.size ≤ gb102)); have GE102 := GW102; have NB101_102 := Zz.mk ((by rw [hg]; exact Nat.ne_of_lt (blk_lt (g := gb101) (o := .cells #[.int .i64 a0_0, .int .i64 a0_1, .slice A0_2 l0_2.length c0_2] 24 (0, 0)) (KB_ BK101.out)) : gb101 ≠ gb102)); have NB102_101 := Zz.mk NB101_102.out.symm; replace BK101 := Zz.mk (bB_ (g := gb101) (o := .cells #[.int .i64 a0_0, .int .i64 a0_1, .slice A0_2 l0_2.length c0_2] 24 (0, 0)) (KB_ BK101.out) hb); replace HB := Zz.mk (bT_ (B1_ HB.out GE101.out) hb); clear hb hbox hg; have hnb7 := NB101_102.out; have hnc7 := NB102_101.out; obtain ⟨hcz8_0, hcz8_1, hcz8_2, hfz8_0, hfz8_1, hfz8_2⟩ := Z3f_ BK101.out) | ((with_reducible refine gC_ (f := 11) rfl ?_); refine GL_ (some 19) rfl rfl Try.func11 #[.agg #[.int .i64 a0_0, .int .i64 a0_1, .slice A0_2 l0_2.length c0_2], .int .i64 1048576] rfl (h := ?_); (with_reducible refine (z11.calls k a0_0 a0_1 _ _ l0_2 1048576 t103 _ ?side1 ?side2 A3.out).mono ?_); (case side1 => exact KC_ (Kd.C_below HR0_2.out HB.out)); (case side2 => exact HC0_2.out); rintro e w9 ⟨rfl, hb⟩; refine ⟨_, rfl, ?_⟩; replace BK101 := Zz.mk (bB_ (g := gb101) (o := .cells #[.int .i64 a0_0, .int .i64 a0_1, .slice A0_2 l0_2.length c0_2] 24 (0, 0)) (KB_ BK101.out) hb); replace BK102 := Zz.mk (bB_ (g := gb102) (o := .cells #[.int .i64 a1_0, .int .i64 a1_1, .slice A1_2 l1_2.length c1_2] 24 (0, 0)) (KB_ BK102.out) hb); replace HB := Zz.mk (bT_ (B2_ HB.out GE101.out GE102.out) hb); (try clear hb); (try clear hb2); (try clear hk); (try clear hi)))
  go_ret
  exact ⟨F_, B2_ HB.out GE101.out GE102.out⟩
 rw [if_neg c4] at H
 have c4b0 : decide (t103 < 0) = false := decide_eq_false c4
 clear c4
 replace H := OZ_ H
 obtain ⟨t104, A10, H⟩ := H
 by_cases c11 : t104 < 0
 ·rw [if_pos c11] at H
  have c11b0 : decide (t104 < 0) = true := decide_eq_true c11
  clear c11
  obtain rfl := OI_ H
  go_enter Try.func4, Try.ntmps4
  go_wp2_with (first | ((with_reducible refine gate_dst (N := 2) rfl ?_); refine box_event ?hg (N := 2) ?hd (cs := #[.int .i64 a0_0, .int .i64 a0_1, .slice A0_2 l0_2.length c0_2]) (t := 24) ?hr ?_; (case hd => rfl); (case hg => rfl); (case hr => first | (go_simp; done) | (go_simp; rfl)); intro gb101 hg w12 hbox hb; have BK101 := Zz.mk (hbox); have GW101 := Zz.mk ((by rw [hg]; exact (bS_ (B_ HB.out)) : w.heap.size ≤ gb101)); have GE101 := GW101; replace HB := Zz.mk (bT_ (B_ HB.out) hb); clear hb hbox hg) | ((with_reducible refine gate_dst (N := 3) rfl ?_); refine box_event ?hg (N := 3) ?hd (cs := #[.int .i64 a1_0, .int .i64 a1_1, .slice A1_2 l1_2.length c1_2]) (t := 24) ?hr ?_; (case hd => rfl); (case hg => rfl); (case hr => first | (go_simp; done) | (go_simp; rfl)); intro gb102 hg w13 hbox hb; have BK102 := Zz.mk (hbox); have GW102 := Zz.mk ((by rw [hg]; exact (bS_ (B1_ HB.out GE101.out)) : w.heap.size ≤ gb102)); have GE102 := GW102; have NB101_102 := Zz.mk ((by rw [hg]; exact Nat.ne_of_lt (blk_lt (g := gb101) (o := .cells #[.int .i64 a0_0, .int .i64 a0_1, .slice A0_2 l0_2.length c0_2] 24 (0, 0)) (KB_ BK101.out)) : gb101 ≠ gb102)); have NB102_101 := Zz.mk NB101_102.out.symm; replace BK101 := Zz.mk (bB_ (g := gb101) (o := .cells #[.int .i64 a0_0, .int .i64 a0_1, .slice A0_2 l0_2.length c0_2] 24 (0, 0)) (KB_ BK101.out) hb); replace HB := Zz.mk (bT_ (B1_ HB.out GE101.out) hb); clear hb hbox hg; have hnb14 := NB101_102.out; have hnc14 := NB102_101.out; obtain ⟨hcz15_0, hcz15_1, hcz15_2, hfz15_0, hfz15_1, hfz15_2⟩ := Z3f_ BK101.out) | ((with_reducible refine gC_ (f := 11) rfl ?_); refine GL_ (some 19) rfl rfl Try.func11 #[.agg #[.int .i64 a0_0, .int .i64 a0_1, .slice A0_2 l0_2.length c0_2], .int .i64 1048576] rfl (h := ?_); (with_reducible refine (z11.calls k a0_0 a0_1 _ _ l0_2 1048576 t103 _ ?side1 ?side2 A3.out).mono ?_); (case side1 => exact KC_ (Kd.C_below HR0_2.out HB.out)); (case side2 => exact HC0_2.out); rintro e w16 ⟨rfl, hb⟩; refine ⟨_, rfl, ?_⟩; replace BK101 := Zz.mk (bB_ (g := gb101) (o := .cells #[.int .i64 a0_0, .int .i64 a0_1, .slice A0_2 l0_2.length c0_2] 24 (0, 0)) (KB_ BK101.out) hb); replace BK102 := Zz.mk (bB_ (g := gb102) (o := .cells #[.int .i64 a1_0, .int .i64 a1_1, .slice A1_2 l1_2.length c1_2] 24 (0, 0)) (KB_ BK102.out) hb); replace HB := Zz.mk (bT_ (B2_ HB.out GE101.out GE102.out) hb); (try clear hb); (try clear hb2); (try clear hk); (try clear hi); obtain ⟨hcz17_0, hcz17_1, hcz17_2, hfz17_0, hfz17_1, hfz17_2⟩ := Z3f_ BK102.out) | ((with_reducible refine gC_ (f := 11) rfl ?_); refine GL_ (some 24) rfl rfl Try.func11 #[.agg #[.int .i64 a1_0, .int .i64 a1_1, .slice A1_2 l1_2.length c1_2], .int .i64 t103] rfl (h := ?_); (with_reducible refine (z11.calls k a1_0 a1_1 _ _ l1_2 t103 t104 _ ?side1 ?side2 A10.out).mono ?_); (case side1 => exact KC_ (Kd.C_below HR1_2.out HB.out)); (case side2 => exact HC1_2.out); rintro e w18 ⟨rfl, hb⟩; refine ⟨_, rfl, ?_⟩; replace BK101 := Zz.mk (bB_ (g := gb101) (o := .cells #[.int .i64 a0_0, .int .i64 a0_1, .slice A0_2 l0_2.length c0_2] 24 (0, 0)) (KB_ BK101.out) hb); replace BK102 := Zz.mk (bB_ (g := gb102) (o := .cells #[.int .i64 a1_0, .int .i64 a1_1, .slice A1_2 l1_2.length c1_2] 24 (0, 0)) (KB_ BK102.out) hb); replace HB := Zz.mk (bT_ (B2_ HB.out GE101.out GE102.out) hb); (try clear hb); (try clear hb2); (try clear hk); (try clear hi)))
  go_ret
  exact ⟨F_, B2_ HB.out GE101.out GE102.out⟩
 rw [if_neg c11] at H
 have c11b0 : decide (t104 < 0) = false := decide_eq_false c11
 clear c11
 replace H := OB_ H
 obtain ⟨⟨t105, t106, t107⟩, A190, H⟩ := H
 try dsimp only at H
 have A19 := Zz.mk A190
 clear A190
 replace H := OB_ H
 obtain ⟨⟨t110, t111, t112⟩, A200, H⟩ := H
 try dsimp only at H
 have A20 := Zz.mk A200
 clear A200
 replace H := OB_ H
 obtain ⟨⟨t115, t116, t117, t120⟩, A210, H⟩ := H
 try dsimp only at H
 have A21 := Zz.mk A210
 clear A210
 replace H := OB_ H
 obtain ⟨⟨t122, t123, t124⟩, A220, H⟩ := H
 try dsimp only at H
 have A22 := Zz.mk A220
 clear A220
 replace H := OB_ H
 obtain ⟨⟨t128, t129, t130⟩, A230, H⟩ := H
 try dsimp only at H
 have A23 := Zz.mk A230
 clear A230
 replace H := OB_ H
 obtain ⟨⟨t134, t135, t136, t139⟩, A240, H⟩ := H
 try dsimp only at H
 have A24 := Zz.mk A240
 clear A240
 replace H := OZ_ H
 obtain ⟨t141, A25, H⟩ := H
 by_cases c26 : t141 = true
 ·subst c26
  replace H := T_ H
  by_cases c27 : t139 = t120
  ·rw [if_pos c27] at H
   have c27b0 : (t139 == t120) = true := beq_iff_eq.mpr c27
   have c27b1 : (t139 != t120) = false := bne_eq_false_iff_eq.mpr c27
   clear c27
   replace H := OB_ H
   obtain ⟨⟨t142, t143, t144⟩, A280, H⟩ := H
   try dsimp only at H
   have A28 := Zz.mk A280
   clear A280
   replace H := OZ_ H
   obtain ⟨t147, A29, H⟩ := H
   by_cases c30 : t147 = true
   ·subst c30
    replace H := T_ H
    replace H := OB_ H
    obtain ⟨⟨t148, t149, t150⟩, A310, H⟩ := H
    try dsimp only at H
    have A31 := Zz.mk A310
    clear A310
    replace H := OZ_ H
    obtain ⟨t153, A32, H⟩ := H
    by_cases c33 : t153 = true
    ·subst c33
     replace H := T_ H
     replace H := OB_ H
     obtain ⟨⟨t154, t155⟩, A340, H⟩ := H
     try dsimp only at H
     have A34 := Zz.mk A340
     clear A340
     replace H := OB_ H
     obtain ⟨⟨t156, t157⟩, A350, H⟩ := H
     try dsimp only at H
     have A35 := Zz.mk A350
     clear A350
     by_cases c36 : t156 < 0
     ·rw [if_pos c36] at H
      have c36b0 : decide (t156 < 0) = true := decide_eq_true c36
      clear c36
      exact absurd (H.trans (congrArg some ht_)) (by simp)
     rw [if_neg c36] at H
     have c36b0 : decide (t156 < 0) = false := decide_eq_false c36
     clear c36
     replace H := OZ_ H
     obtain ⟨t158, A37, H⟩ := H
     by_cases c38 : t158 = true
     ·subst c38
      replace H := T_ H
      replace H := OB_ H
      obtain ⟨⟨t159, t160⟩, A390, H⟩ := H
      try dsimp only at H
      have A39 := Zz.mk A390
      clear A390
      replace H := OZ_ H
      obtain ⟨t161, A40, H⟩ := H
      by_cases c41 : t161 < 0
      ·rw [if_pos c41] at H
       have c41b0 : decide (t161 < 0) = true := decide_eq_true c41
       clear c41
       exact absurd (H.trans (congrArg some ht_)) (by simp)
      rw [if_neg c41] at H
      have c41b0 : decide (t161 < 0) = false := decide_eq_false c41
      clear c41
      by_cases c42 : t161 = t159
      ·rw [if_pos c42] at H
       have c42b0 : (t161 == t159) = true := beq_iff_eq.mpr c42
       have c42b1 : (t161 != t159) = false := bne_eq_false_iff_eq.mpr c42
       clear c42
       replace H := OB_ H
       obtain ⟨⟨t162, t163, t164⟩, A430, H⟩ := H
       try dsimp only at H
       have A43 := Zz.mk A430
       clear A430
       replace H := OB_ H
       obtain ⟨⟨t167, t168, t169⟩, A440, H⟩ := H
       try dsimp only at H
       have A44 := Zz.mk A440
       clear A440
       replace H := OB_ H
       obtain ⟨⟨t172, t173, t174, t177⟩, A450, H⟩ := H
       try dsimp only at H
       have A45 := Zz.mk A450
       clear A450
       replace H := OZ_ H
       obtain ⟨t179, A46, H⟩ := H
       by_cases c47 : t179 = true
       ·subst c47
        replace H := T_ H
        by_cases c48 : t177 = t120
        ·rw [if_pos c48] at H
         have c48b0 : (t177 == t120) = true := beq_iff_eq.mpr c48
         have c48b1 : (t177 != t120) = false := bne_eq_false_iff_eq.mpr c48
         clear c48
         replace H := OZ_ H
         obtain ⟨t180, A49, H⟩ := H
         by_cases c50 : t180 < 0
         ·rw [if_pos c50] at H
          have c50b0 : decide (t180 < 0) = true := decide_eq_true c50
          clear c50
          exact absurd (H.trans (congrArg some ht_)) (by simp)
         rw [if_neg c50] at H
         have c50b0 : decide (t180 < 0) = false := decide_eq_false c50
         clear c50
         by_cases c51 : t180 = t159
         ·rw [if_pos c51] at H
          have c51b0 : (t180 == t159) = true := beq_iff_eq.mpr c51
          have c51b1 : (t180 != t159) = false := bne_eq_false_iff_eq.mpr c51
          clear c51
          obtain rfl := OI_ H
          go_enter Try.func4, Try.ntmps4
          try go_wp2_with (first | ((with_reducible refine gate_dst (N := 2) rfl ?_); refine box_event ?hg (N := 2) ?hd (cs := #[.int .i64 a0_0, .int .i64 a0_1, .slice A0_2 l0_2.length c0_2]) (t := 24) ?hr ?_; (case hd => rfl); (case hg => rfl); (case hr => first | (go_simp; done) | (go_simp; rfl)); intro gb101 hg w52 hbox hb; have BK101 := Zz.mk (hbox); have GW101 := Zz.mk ((by rw [hg]; exact (bS_ (B_ HB.out)) : w.heap.size ≤ gb101)); have GE101 := GW101; replace HB := Zz.mk (bT_ (B_ HB.out) hb); clear hb hbox hg) | ((with_reducible refine gate_dst (N := 3) rfl ?_); refine box_event ?hg (N := 3) ?hd (cs := #[.int .i64 a1_0, .int .i64 a1_1, .slice A1_2 l1_2.length c1_2]) (t := 24) ?hr ?_; (case hd => rfl); (case hg => rfl); (case hr => first | (go_simp; done) | (go_simp; rfl)); intro gb102 hg w53 hbox hb; have BK102 := Zz.mk (hbox); have GW102 := Zz.mk ((by rw [hg]; exact (bS_ (B1_ HB.out GE101.out)) : w.heap.size ≤ gb102)); have GE102 := GW102; have NB101_102 := Zz.mk ((by rw [hg]; exact Nat.ne_of_lt (blk_lt (g := gb101) (o := .cells #[.int .i64 a0_0, .int .i64 a0_1, .slice A0_2 l0_2.length c0_2] 24 (0, 0)) (KB_ BK101.out)) : gb101 ≠ gb102)); have NB102_101 := Zz.mk NB101_102.out.symm; replace BK101 := Zz.mk (bB_ (g := gb101) (o := .cells #[.int .i64 a0_0, .int .i64 a0_1, .slice A0_2 l0_2.length c0_2] 24 (0, 0)) (KB_ BK101.out) hb); replace HB := Zz.mk (bT_ (B1_ HB.out GE101.out) hb); clear hb hbox hg; have hnb54 := NB101_102.out; have hnc54 := NB102_101.out; obtain ⟨hcz55_0, hcz55_1, hcz55_2, hfz55_0, hfz55_1, hfz55_2⟩ := Z3f_ BK101.out) | ((with_reducible refine gC_ (f := 11) rfl ?_); refine GL_ (some 19) rfl rfl Try.func11 #[.agg #[.int .i64 a0_0, .int .i64 a0_1, .slice A0_2 l0_2.length c0_2], .int .i64 1048576] rfl (h := ?_); (with_reducible refine (z11.calls k a0_0 a0_1 _ _ l0_2 1048576 t103 _ ?side1 ?side2 A3.out).mono ?_); (case side1 => exact KC_ (Kd.C_below HR0_2.out HB.out)); (case side2 => exact HC0_2.out); rintro e w56 ⟨rfl, hb⟩; refine ⟨_, rfl, ?_⟩; replace BK101 := Zz.mk (bB_ (g := gb101) (o := .cells #[.int .i64 a0_0, .int .i64 a0_1, .slice A0_2 l0_2.length c0_2] 24 (0, 0)) (KB_ BK101.out) hb); replace BK102 := Zz.mk (bB_ (g := gb102) (o := .cells #[.int .i64 a1_0, .int .i64 a1_1, .slice A1_2 l1_2.length c1_2] 24 (0, 0)) (KB_ BK102.out) hb); replace HB := Zz.mk (bT_ (B2_ HB.out GE101.out GE102.out) hb); (try clear hb); (try clear hb2); (try clear hk); (try clear hi); obtain ⟨hcz57_0, hcz57_1, hcz57_2, hfz57_0, hfz57_1, hfz57_2⟩ := Z3f_ BK102.out) | ((with_reducible refine gC_ (f := 11) rfl ?_); refine GL_ (some 24) rfl rfl Try.func11 #[.agg #[.int .i64 a1_0, .int .i64 a1_1, .slice A1_2 l1_2.length c1_2], .int .i64 t103] rfl (h := ?_); (with_reducible refine (z11.calls k a1_0 a1_1 _ _ l1_2 t103 t104 _ ?side1 ?side2 A10.out).mono ?_); (case side1 => exact KC_ (Kd.C_below HR1_2.out HB.out)); (case side2 => exact HC1_2.out); rintro e w58 ⟨rfl, hb⟩; refine ⟨_, rfl, ?_⟩; replace BK101 := Zz.mk (bB_ (g := gb101) (o := .cells #[.int .i64 a0_0, .int .i64 a0_1, .slice A0_2 l0_2.length c0_2] 24 (0, 0)) (KB_ BK101.out) hb); replace BK102 := Zz.mk (bB_ (g := gb102) (o := .cells #[.int .i64 a1_0, .int .i64 a1_1, .slice A1_2 l1_2.length c1_2] 24 (0, 0)) (KB_ BK102.out) hb); replace HB := Zz.mk (bT_ (B2_ HB.out GE101.out GE102.out) hb); (try clear hb); (try clear hb2); (try clear hk); (try clear hi)))
          replace BK101 := Zz.mk (bD_ BK101.out)
          replace BK102 := Zz.mk (bD_ BK102.out)
          replace HB := Zz.mk (below_drew1 HB.out)
          refine start_ (n := 11) (S := fun w' => w'.cell? ⟨gb101, 0, none⟩ = some (.int .i64 a0_0) ∧ w'.cell? ⟨gb101, 1, none⟩ = some (.int .i64 a0_1) ∧ w'.cell? ⟨gb101, 2, none⟩ = some (.slice A0_2 l0_2.length c0_2) ∧ w'.cell? ⟨gb102, 0, none⟩ = some (.int .i64 a1_0) ∧ w'.cell? ⟨gb102, 1, none⟩ = some (.int .i64 a1_1) ∧ w'.cell? ⟨gb102, 2, none⟩ = some (.slice A1_2 l1_2.length c1_2)) (ds := []) (tb_ 11 0) (by kernel_rfl) rfl rfl ⟨(bC_ BK101.out 0).trans rfl, (bC_ BK101.out 1).trans rfl, (bC_ BK101.out 2).trans rfl, (bC_ BK102.out 0).trans rfl, (bC_ BK102.out 1).trans rfl, (bC_ BK102.out 2).trans rfl⟩ (fun hHeld => ?_); refine with_tabW z4.tab8 z4.bits8 (fun HT_ HW_ => ?_)
          generalize w58.drew = w59 at BK101 BK102 HB hHeld ⊢
          refine TV_ (i := 0) (N := some 28) (tb_ 11 1) HT_ HW_ rfl rfl hHeld (by rintro w' ⟨s0, s1, s2, s3, s4, s5⟩; go_simp; with_reducible rfl) (h := ?_)
          refine TV_ (i := 2) (N := some 30) (tb_ 11 5) HT_ HW_ rfl rfl hHeld (by rintro w' ⟨s0, s1, s2, s3, s4, s5⟩; go_simp; with_reducible rfl) (h := ?_)
          refine join_ (σ := Value × Value × Value × Nat) 2 (tb_ 11 511) (fun s_ => [(29, .agg #[.int .i64 t105, .int .i64 t106, s_.1]), (31, .agg #[.int .i64 t110, .int .i64 t111, s_.2.1]), (32, .tuple #[.agg #[.int .i64 t115, .int .i64 t116, s_.2.2.1], .int .i64 t120]), (6, .pointer (some ⟨s_.2.2.2, 0, none⟩)), (27, .tuple #[.agg #[.int .i64 t115, .int .i64 t116, s_.2.2.1], .int .i64 t120]), (33, .agg #[.int .i64 t115, .int .i64 t116, s_.2.2.1]), (34, .int .i64 t120)]) (fun s_ w' => (w'.cell? ⟨gb101, 0, none⟩ = some (.int .i64 a0_0) ∧ w'.cell? ⟨gb101, 1, none⟩ = some (.int .i64 a0_1) ∧ w'.cell? ⟨gb101, 2, none⟩ = some (.slice A0_2 l0_2.length c0_2) ∧ w'.cell? ⟨gb102, 0, none⟩ = some (.int .i64 a1_0) ∧ w'.cell? ⟨gb102, 1, none⟩ = some (.int .i64 a1_1) ∧ w'.cell? ⟨gb102, 2, none⟩ = some (.slice A1_2 l1_2.length c1_2)) ∧ (Kd.S (Kd.slice 2 (Kd.int .i64)) 25 w' w.heap.size (fun k_ => some k_ ≠ (s_.2.1 : Value).ownBlock ∧ some k_ ≠ (s_.2.2.1 : Value).ownBlock) s_.1 t107) ∧ (Kd.S (Kd.slice 2 (Kd.int .i64)) 25 w' w.heap.size (fun k_ => some k_ ≠ (s_.1 : Value).ownBlock ∧ some k_ ≠ (s_.2.2.1 : Value).ownBlock) s_.2.1 t112) ∧ (Kd.S (Kd.slice 2 (Kd.int .i64)) 25 w' w.heap.size (fun k_ => some k_ ≠ (s_.1 : Value).ownBlock ∧ some k_ ≠ (s_.2.1 : Value).ownBlock) s_.2.2.1 t117) ∧ (w'.heap[gb101]? = some (.cells #[.int .i64 a0_0, .int .i64 a0_1, .slice A0_2 l0_2.length c0_2] 24 (0, 0))) ∧ (w'.heap[gb102]? = some (.cells #[.int .i64 a1_0, .int .i64 a1_1, .slice A1_2 l1_2.length c1_2] 24 (0, 0))) ∧ (w'.heap[s_.2.2.2]? = some (.cells #[.int .i64 0, .int .i64 0, .slice none 0 0] 29 (0, 0))) ∧ (w.heap.size ≤ s_.2.2.2) ∧ (w.heap.size ≤ s_.2.2.2) ∧ (gb101 ≠ s_.2.2.2) ∧ (s_.2.2.2 ≠ gb101) ∧ (gb102 ≠ s_.2.2.2) ∧ (s_.2.2.2 ≠ gb102) ∧ (Below w.heap.size w w')) ?_ ?_
          rotate_left
          ·intro hCont
           refine two_ (i := 1) (j := 8) (Ni := some 29) (Nj := some 6) (tb_ 11 7) (tb_ 11 261) rfl rfl rfl rfl (two_of HT_.out (by kernel_rfl)) (by decide) (by decide) (fun K hK => ?_) (fun K hK => ?_)
           ·skip
            refine GO_ Try.func13 #[.agg #[.int .i64 a0_0, .int .i64 a0_1, .slice A0_2 l0_2.length c0_2]] (h := ?_)
            with_reducible refine (z13.calls k a0_0 a0_1 _ _ l0_2 t105 t106 t107 _ ?side1 ?side2 A19.out).mono ?_
            (case side1 => exact KC_ (Kd.C_below HR0_2.out HB.out))
            (case side2 => exact HC0_2.out)
            rintro e w60 ⟨v108, rfl, ho0, hb⟩
            refine ⟨_, rfl, ?_⟩
            obtain ⟨nan61, hnan61⟩ := Kd.size_letter hb
            have HO109 := Zz.mk (Kd.S_lower (Kd.S_geN ho0 hnan61) (bS_ (B2_ HB.out GE101.out GE102.out)))
            replace BK101 := Zz.mk (bB_ (g := gb101) (o := .cells #[.int .i64 a0_0, .int .i64 a0_1, .slice A0_2 l0_2.length c0_2] 24 (0, 0)) (KB_ BK101.out) hb)
            replace BK102 := Zz.mk (bB_ (g := gb102) (o := .cells #[.int .i64 a1_0, .int .i64 a1_1, .slice A1_2 l1_2.length c1_2] 24 (0, 0)) (KB_ BK102.out) hb)
            replace HB := Zz.mk (bT_ (B2_ HB.out GE101.out GE102.out) hb)
            (try clear hb);(try clear hb2);(try clear hk);(try clear hi);(try clear ho0)
            refine hK.out _ _ ⟨(bC_ BK101.out 0).trans rfl, (bC_ BK101.out 1).trans rfl, (bC_ BK101.out 2).trans rfl, (bC_ BK102.out 0).trans rfl, (bC_ BK102.out 1).trans rfl, (bC_ BK102.out 2).trans rfl⟩ (fun hHeld => ?_)
            clear hK K
            refine NM_ (N := (some 29)) (h := ?_)
            refine two_ (i := 3) (j := 8) (Ni := some 31) (Nj := some 6) (tb_ 11 15) (tb_ 11 263) rfl rfl rfl rfl (two_of HT_.out (by kernel_rfl)) (by decide) (by decide) (fun K hK => ?_) (fun K hK => ?_)
            ·skip
             refine GO_ Try.func13 #[.agg #[.int .i64 a1_0, .int .i64 a1_1, .slice A1_2 l1_2.length c1_2]] (h := ?_)
             with_reducible refine (z13.calls k a1_0 a1_1 _ _ l1_2 t110 t111 t112 _ ?side1 ?side2 A20.out).mono ?_
             (case side1 => exact KC_ (Kd.C_below HR1_2.out HB.out))
             (case side2 => exact HC1_2.out)
             rintro e w62 ⟨v113, rfl, ho0, hb⟩
             refine ⟨_, rfl, ?_⟩
             obtain ⟨nan63, hnan63⟩ := Kd.size_letter hb
             have HO114 := Zz.mk (Kd.S_lower (Kd.S_geN (Kd.S_new' ho0 (Kd.S_lt (KS_ HO109.out))) hnan63) (bS_ (B2_ HB.out GE101.out GE102.out)))
             replace HO109 := Zz.mk (Kd.S_told (Kd.S_oldN (KS_ HO109.out) hb hnan63) (Kd.S_baseN ho0 hnan63))
             replace BK101 := Zz.mk (bB_ (g := gb101) (o := .cells #[.int .i64 a0_0, .int .i64 a0_1, .slice A0_2 l0_2.length c0_2] 24 (0, 0)) (KB_ BK101.out) hb)
             replace BK102 := Zz.mk (bB_ (g := gb102) (o := .cells #[.int .i64 a1_0, .int .i64 a1_1, .slice A1_2 l1_2.length c1_2] 24 (0, 0)) (KB_ BK102.out) hb)
             replace HB := Zz.mk (bT_ (B2_ HB.out GE101.out GE102.out) hb)
             (try clear hb);(try clear hb2);(try clear hk);(try clear hi);(try clear ho0)
             obtain ⟨Ao64, co64, eo64⟩ := Kd.S_slice HO109.out
             (first | subst eo64 | (injection eo64 with f1_ f2_ f3_; have f4_ := f1_.symm; have f5_ := f3_.symm; clear f1_ f2_ f3_; subst f4_; subst f5_))
             obtain ⟨Ao65, co65, eo65⟩ := Kd.S_slice HO114.out
             (first | subst eo65 | (injection eo65 with f1_ f2_ f3_; have f4_ := f1_.symm; have f5_ := f3_.symm; clear f1_ f2_ f3_; subst f4_; subst f5_))
             refine hK.out _ _ ⟨(bC_ BK101.out 0).trans rfl, (bC_ BK101.out 1).trans rfl, (bC_ BK101.out 2).trans rfl, (bC_ BK102.out 0).trans rfl, (bC_ BK102.out 1).trans rfl, (bC_ BK102.out 2).trans rfl⟩ (fun hHeld => ?_)
             clear hK K
             refine NM_ (N := (some 31)) (h := ?_)
             refine two_ (i := 4) (j := 8) (Ni := some 32) (Nj := some 6) (tb_ 11 31) (tb_ 11 271) rfl rfl rfl rfl (two_of HT_.out (by kernel_rfl)) (by decide) (by decide) (fun K hK => ?_) (fun K hK => ?_)
             ·skip
              refine GO_ Try.func21 #[.agg #[.int .i64 t105, .int .i64 t106, .slice Ao64 t107.length co64], .agg #[.int .i64 t110, .int .i64 t111, .slice Ao65 t112.length co65]] (h := ?_)
              with_reducible refine (z21.calls k t105 t106 (fun k_ => (((((True ∧ nan61 ≤ k_) ∧ some k_ ≠ (.slice Ao65 t112.length co65 : Value).ownBlock) ∧ k_ < nan63) ∧ k_ ≠ gb101) ∧ k_ ≠ gb102)) _ _ t107 t110 t111 (fun k_ => ((((True ∧ some k_ ≠ (.slice Ao64 t107.length co64 : Value).ownBlock) ∧ nan63 ≤ k_) ∧ k_ ≠ gb101) ∧ k_ ≠ gb102)) _ _ t112 t115 t116 t117 t120 _ ?side1 ?side2 A21.out).mono ?_
              (case side1 => exact Kd.S_V (Kd.S_types (Kd.S_types (HO109.out) BK101.out (by decide)) BK102.out (by decide)))
              (case side2 => exact Kd.S_V (Kd.S_types (Kd.S_types (HO114.out) BK101.out (by decide)) BK102.out (by decide)))
              rintro e w66 ⟨v118, rfl, ho0, hb⟩
              refine ⟨_, rfl, ?_⟩
              have HO119 := Zz.mk (Kd.S_lower (Kd.S_new' (Kd.S_new' (Kd.S_mono (ok' := fun k_ => True) ho0 (fun _ hk_ => trivial)) (Kd.S_lt (KS_ HO109.out))) (Kd.S_lt (KS_ HO114.out))) (bS_ (B2_ HB.out GE101.out GE102.out)))
              replace HO109 := Zz.mk (Kd.S_elder' (KS_ HO109.out) (Kd.S_base ho0) hb)
              replace HO114 := Zz.mk (Kd.S_elder' (KS_ HO114.out) (Kd.S_base ho0) hb)
              replace BK101 := Zz.mk (bB_ (g := gb101) (o := .cells #[.int .i64 a0_0, .int .i64 a0_1, .slice A0_2 l0_2.length c0_2] 24 (0, 0)) (KB_ BK101.out) hb)
              replace BK102 := Zz.mk (bB_ (g := gb102) (o := .cells #[.int .i64 a1_0, .int .i64 a1_1, .slice A1_2 l1_2.length c1_2] 24 (0, 0)) (KB_ BK102.out) hb)
              replace HB := Zz.mk (bT_ (B2_ HB.out GE101.out GE102.out) hb)
              (try clear hb);(try clear hb2);(try clear hk);(try clear hi);(try clear ho0)
              refine hK.out _ _ ⟨(bC_ BK101.out 0).trans rfl, (bC_ BK101.out 1).trans rfl, (bC_ BK101.out 2).trans rfl, (bC_ BK102.out 0).trans rfl, (bC_ BK102.out 1).trans rfl, (bC_ BK102.out 2).trans rfl⟩ (fun hHeld => ?_)
              clear hK K
              refine NM_ (N := (some 32)) (h := ?_)
              refine PX_ 5 27 (tb_ 11 63) HT_ rfl rfl ?_
              refine PX_ 6 33 (tb_ 11 127) HT_ rfl rfl ?_
              refine PX_ 7 34 (tb_ 11 255) HT_ rfl rfl ?_
              refine one_ (i := 8) (N := some 6) (tb_ 11 511) rfl rfl (one_of HT_.out (by kernel_rfl)) (by decide) (fun K hK => ?_)
              refine box_step ?hg (N := 6) ?hd (cs := #[.int .i64 0, .int .i64 0, .slice none 0 0]) (t := 29) ?hr ?_; (case hd => rfl); (case hg => rfl); (case hr => first | (go_simp; done) | (go_simp; rfl))
              intro gb121 hg w67 hbox hb
              have BK121 := Zz.mk (hbox)
              have GW121 := Zz.mk ((by rw [hg]; exact (bS_ (B2_ HB.out GE101.out GE102.out)) : w.heap.size ≤ gb121))
              have GE121 := GW121
              have NB101_121 := Zz.mk ((by rw [hg]; exact Nat.ne_of_lt (blk_lt (g := gb101) (o := .cells #[.int .i64 a0_0, .int .i64 a0_1, .slice A0_2 l0_2.length c0_2] 24 (0, 0)) (KB_ BK101.out)) : gb101 ≠ gb121))
              have NB121_101 := Zz.mk NB101_121.out.symm
              have NB102_121 := Zz.mk ((by rw [hg]; exact Nat.ne_of_lt (blk_lt (g := gb102) (o := .cells #[.int .i64 a1_0, .int .i64 a1_1, .slice A1_2 l1_2.length c1_2] 24 (0, 0)) (KB_ BK102.out)) : gb102 ≠ gb121))
              have NB121_102 := Zz.mk NB102_121.out.symm
              replace HO109 := Zz.mk (Kd.S_below (KS_ HO109.out) hb)
              replace HO114 := Zz.mk (Kd.S_below (KS_ HO114.out) hb)
              replace HO119 := Zz.mk (Kd.S_below (KS_ HO119.out) hb)
              replace BK101 := Zz.mk (bB_ (g := gb101) (o := .cells #[.int .i64 a0_0, .int .i64 a0_1, .slice A0_2 l0_2.length c0_2] 24 (0, 0)) (KB_ BK101.out) hb)
              replace BK102 := Zz.mk (bB_ (g := gb102) (o := .cells #[.int .i64 a1_0, .int .i64 a1_1, .slice A1_2 l1_2.length c1_2] 24 (0, 0)) (KB_ BK102.out) hb)
              replace HB := Zz.mk (bT_ (B2_ HB.out GE101.out GE102.out) hb)
              clear hb hbox hg
              refine hK.out _ _ ⟨(bC_ BK101.out 0).trans rfl, (bC_ BK101.out 1).trans rfl, (bC_ BK101.out 2).trans rfl, (bC_ BK102.out 0).trans rfl, (bC_ BK102.out 1).trans rfl, (bC_ BK102.out 2).trans rfl⟩ (fun hHeld => ?_)
              clear hK K
              refine NM_ (N := (some 6)) (h := ?_)
              exact norm_ (by simp only [putAll, Act.put, List.setIfInBounds_toArray, List.set_cons_zero, List.set_cons_succ]) (hCont (.slice Ao64 t107.length co64, .slice Ao65 t112.length co65, v118, gb121) _ ⟨hHeld, (by refine SW_ ?_; exact Kd.S_mono HO109.out (fun _ hk => ⟨hk.1.1.2, hk.2⟩)), (by refine SW_ ?_; exact Kd.S_mono HO114.out (fun _ hk => ⟨hk.1.1.2, hk.2⟩)), (by refine SW_ ?_; exact Kd.S_mono HO119.out (fun _ hk => ⟨hk.1.2, hk.2⟩)), (KB_ BK101.out), (KB_ BK102.out), (KB_ BK121.out), GW121.out, GE121.out, NB101_121.out, NB121_101.out, NB102_121.out, NB121_102.out, (B3_ HB.out GE101.out GE102.out GE121.out)⟩)
             skip
             refine box_step ?hg (N := 6) ?hd (cs := #[.int .i64 0, .int .i64 0, .slice none 0 0]) (t := 29) ?hr ?_; (case hd => rfl); (case hg => rfl); (case hr => first | (go_simp; done) | (go_simp; rfl))
             intro gb121 hg w64 hbox hb
             have BK121 := Zz.mk (hbox)
             have GW121 := Zz.mk ((by rw [hg]; exact (bS_ (B2_ HB.out GE101.out GE102.out)) : w.heap.size ≤ gb121))
             have GE121 := GW121
             have NB101_121 := Zz.mk ((by rw [hg]; exact Nat.ne_of_lt (blk_lt (g := gb101) (o := .cells #[.int .i64 a0_0, .int .i64 a0_1, .slice A0_2 l0_2.length c0_2] 24 (0, 0)) (KB_ BK101.out)) : gb101 ≠ gb121))
             have NB121_101 := Zz.mk NB101_121.out.symm
             have NB102_121 := Zz.mk ((by rw [hg]; exact Nat.ne_of_lt (blk_lt (g := gb102) (o := .cells #[.int .i64 a1_0, .int .i64 a1_1, .slice A1_2 l1_2.length c1_2] 24 (0, 0)) (KB_ BK102.out)) : gb102 ≠ gb121))
             have NB121_102 := Zz.mk NB102_121.out.symm
             replace HO109 := Zz.mk (Kd.S_below (KS_ HO109.out) hb)
             replace HO114 := Zz.mk (Kd.S_below (KS_ HO114.out) hb)
             replace BK101 := Zz.mk (bB_ (g := gb101) (o := .cells #[.int .i64 a0_0, .int .i64 a0_1, .slice A0_2 l0_2.length c0_2] 24 (0, 0)) (KB_ BK101.out) hb)
             replace BK102 := Zz.mk (bB_ (g := gb102) (o := .cells #[.int .i64 a1_0, .int .i64 a1_1, .slice A1_2 l1_2.length c1_2] 24 (0, 0)) (KB_ BK102.out) hb)
             replace HB := Zz.mk (bT_ (B2_ HB.out GE101.out GE102.out) hb)
             clear hb hbox hg
             obtain ⟨Ao65, co65, eo65⟩ := Kd.S_slice HO109.out
             (first | subst eo65 | (injection eo65 with f1_ f2_ f3_; have f4_ := f1_.symm; have f5_ := f3_.symm; clear f1_ f2_ f3_; subst f4_; subst f5_))
             obtain ⟨Ao66, co66, eo66⟩ := Kd.S_slice HO114.out
             (first | subst eo66 | (injection eo66 with f1_ f2_ f3_; have f4_ := f1_.symm; have f5_ := f3_.symm; clear f1_ f2_ f3_; subst f4_; subst f5_))
             refine hK.out _ _ ⟨(bC_ BK101.out 0).trans rfl, (bC_ BK101.out 1).trans rfl, (bC_ BK101.out 2).trans rfl, (bC_ BK102.out 0).trans rfl, (bC_ BK102.out 1).trans rfl, (bC_ BK102.out 2).trans rfl⟩ (fun hHeld => ?_)
             clear hK K
             refine NM_ (N := (some 6)) (h := ?_)
             refine one_ (i := 4) (N := some 32) (tb_ 11 287) rfl rfl (one_of HT_.out (by kernel_rfl)) (by decide) (fun K hK => ?_)
             refine GO_ Try.func21 #[.agg #[.int .i64 t105, .int .i64 t106, .slice Ao65 t107.length co65], .agg #[.int .i64 t110, .int .i64 t111, .slice Ao66 t112.length co66]] (h := ?_)
             with_reducible refine (z21.calls k t105 t106 (fun k_ => ((((((True ∧ nan61 ≤ k_) ∧ some k_ ≠ (.slice Ao66 t112.length co66 : Value).ownBlock) ∧ k_ < nan63) ∧ k_ ≠ gb101) ∧ k_ ≠ gb102) ∧ k_ ≠ gb121)) _ _ t107 t110 t111 (fun k_ => (((((True ∧ some k_ ≠ (.slice Ao65 t107.length co65 : Value).ownBlock) ∧ nan63 ≤ k_) ∧ k_ ≠ gb101) ∧ k_ ≠ gb102) ∧ k_ ≠ gb121)) _ _ t112 t115 t116 t117 t120 _ ?side1 ?side2 A21.out).mono ?_
             (case side1 => exact Kd.S_V (Kd.S_types (Kd.S_types (Kd.S_types (HO109.out) BK101.out (by decide)) BK102.out (by decide)) BK121.out (by decide)))
             (case side2 => exact Kd.S_V (Kd.S_types (Kd.S_types (Kd.S_types (HO114.out) BK101.out (by decide)) BK102.out (by decide)) BK121.out (by decide)))
             rintro e w67 ⟨v118, rfl, ho0, hb⟩
             refine ⟨_, rfl, ?_⟩
             have HO119 := Zz.mk (Kd.S_lower (Kd.S_new' (Kd.S_new' (Kd.S_mono (ok' := fun k_ => True) ho0 (fun _ hk_ => trivial)) (Kd.S_lt (KS_ HO109.out))) (Kd.S_lt (KS_ HO114.out))) (bS_ (B3_ HB.out GE101.out GE102.out GE121.out)))
             replace HO109 := Zz.mk (Kd.S_elder' (KS_ HO109.out) (Kd.S_base ho0) hb)
             replace HO114 := Zz.mk (Kd.S_elder' (KS_ HO114.out) (Kd.S_base ho0) hb)
             replace BK101 := Zz.mk (bB_ (g := gb101) (o := .cells #[.int .i64 a0_0, .int .i64 a0_1, .slice A0_2 l0_2.length c0_2] 24 (0, 0)) (KB_ BK101.out) hb)
             replace BK102 := Zz.mk (bB_ (g := gb102) (o := .cells #[.int .i64 a1_0, .int .i64 a1_1, .slice A1_2 l1_2.length c1_2] 24 (0, 0)) (KB_ BK102.out) hb)
             replace BK121 := Zz.mk (bB_ (g := gb121) (o := .cells #[.int .i64 0, .int .i64 0, .slice none 0 0] 29 (0, 0)) (KB_ BK121.out) hb)
             replace HB := Zz.mk (bT_ (B3_ HB.out GE101.out GE102.out GE121.out) hb)
             (try clear hb);(try clear hb2);(try clear hk);(try clear hi);(try clear ho0)
             refine hK.out _ _ ⟨(bC_ BK101.out 0).trans rfl, (bC_ BK101.out 1).trans rfl, (bC_ BK101.out 2).trans rfl, (bC_ BK102.out 0).trans rfl, (bC_ BK102.out 1).trans rfl, (bC_ BK102.out 2).trans rfl⟩ (fun hHeld => ?_)
             clear hK K
             refine NM_ (N := (some 32)) (h := ?_)
             refine PX_ 5 27 (tb_ 11 319) HT_ rfl rfl ?_
             refine PX_ 6 33 (tb_ 11 383) HT_ rfl rfl ?_
             refine PX_ 7 34 (tb_ 11 511) HT_ rfl rfl ?_
             exact norm_ (by simp only [putAll, Act.put, List.setIfInBounds_toArray, List.set_cons_zero, List.set_cons_succ]) (hCont (.slice Ao65 t107.length co65, .slice Ao66 t112.length co66, v118, gb121) _ ⟨hHeld, (by refine SW_ ?_; exact Kd.S_mono HO109.out (fun _ hk => ⟨hk.1.1.2, hk.2⟩)), (by refine SW_ ?_; exact Kd.S_mono HO114.out (fun _ hk => ⟨hk.1.1.2, hk.2⟩)), (by refine SW_ ?_; exact Kd.S_mono HO119.out (fun _ hk => ⟨hk.1.2, hk.2⟩)), (KB_ BK101.out), (KB_ BK102.out), (KB_ BK121.out), GW121.out, GE121.out, NB101_121.out, NB121_101.out, NB102_121.out, NB121_102.out, (B3_ HB.out GE101.out GE102.out GE121.out)⟩)
            skip
            refine box_step ?hg (N := 6) ?hd (cs := #[.int .i64 0, .int .i64 0, .slice none 0 0]) (t := 29) ?hr ?_; (case hd => rfl); (case hg => rfl); (case hr => first | (go_simp; done) | (go_simp; rfl))
            intro gb121 hg w62 hbox hb
            have BK121 := Zz.mk (hbox)
            have GW121 := Zz.mk ((by rw [hg]; exact (bS_ (B2_ HB.out GE101.out GE102.out)) : w.heap.size ≤ gb121))
            have GE121 := GW121
            have NB101_121 := Zz.mk ((by rw [hg]; exact Nat.ne_of_lt (blk_lt (g := gb101) (o := .cells #[.int .i64 a0_0, .int .i64 a0_1, .slice A0_2 l0_2.length c0_2] 24 (0, 0)) (KB_ BK101.out)) : gb101 ≠ gb121))
            have NB121_101 := Zz.mk NB101_121.out.symm
            have NB102_121 := Zz.mk ((by rw [hg]; exact Nat.ne_of_lt (blk_lt (g := gb102) (o := .cells #[.int .i64 a1_0, .int .i64 a1_1, .slice A1_2 l1_2.length c1_2] 24 (0, 0)) (KB_ BK102.out)) : gb102 ≠ gb121))
            have NB121_102 := Zz.mk NB102_121.out.symm
            replace HO109 := Zz.mk (Kd.S_below (KS_ HO109.out) hb)
            replace BK101 := Zz.mk (bB_ (g := gb101) (o := .cells #[.int .i64 a0_0, .int .i64 a0_1, .slice A0_2 l0_2.length c0_2] 24 (0, 0)) (KB_ BK101.out) hb)
            replace BK102 := Zz.mk (bB_ (g := gb102) (o := .cells #[.int .i64 a1_0, .int .i64 a1_1, .slice A1_2 l1_2.length c1_2] 24 (0, 0)) (KB_ BK102.out) hb)
            replace HB := Zz.mk (bT_ (B2_ HB.out GE101.out GE102.out) hb)
            clear hb hbox hg
            refine hK.out _ _ ⟨(bC_ BK101.out 0).trans rfl, (bC_ BK101.out 1).trans rfl, (bC_ BK101.out 2).trans rfl, (bC_ BK102.out 0).trans rfl, (bC_ BK102.out 1).trans rfl, (bC_ BK102.out 2).trans rfl⟩ (fun hHeld => ?_)
            clear hK K
            refine NM_ (N := (some 6)) (h := ?_)
            refine one_ (i := 3) (N := some 31) (tb_ 11 271) rfl rfl (one_of HT_.out (by kernel_rfl)) (by decide) (fun K hK => ?_)
            refine GO_ Try.func13 #[.agg #[.int .i64 a1_0, .int .i64 a1_1, .slice A1_2 l1_2.length c1_2]] (h := ?_)
            with_reducible refine (z13.calls k a1_0 a1_1 _ _ l1_2 t110 t111 t112 _ ?side1 ?side2 A20.out).mono ?_
            (case side1 => exact KC_ (Kd.C_below HR1_2.out HB.out))
            (case side2 => exact HC1_2.out)
            rintro e w63 ⟨v113, rfl, ho0, hb⟩
            refine ⟨_, rfl, ?_⟩
            obtain ⟨nan64, hnan64⟩ := Kd.size_letter hb
            have HO114 := Zz.mk (Kd.S_lower (Kd.S_geN (Kd.S_new' ho0 (Kd.S_lt (KS_ HO109.out))) hnan64) (bS_ (B3_ HB.out GE101.out GE102.out GE121.out)))
            replace HO109 := Zz.mk (Kd.S_told (Kd.S_oldN (KS_ HO109.out) hb hnan64) (Kd.S_baseN ho0 hnan64))
            replace BK101 := Zz.mk (bB_ (g := gb101) (o := .cells #[.int .i64 a0_0, .int .i64 a0_1, .slice A0_2 l0_2.length c0_2] 24 (0, 0)) (KB_ BK101.out) hb)
            replace BK102 := Zz.mk (bB_ (g := gb102) (o := .cells #[.int .i64 a1_0, .int .i64 a1_1, .slice A1_2 l1_2.length c1_2] 24 (0, 0)) (KB_ BK102.out) hb)
            replace BK121 := Zz.mk (bB_ (g := gb121) (o := .cells #[.int .i64 0, .int .i64 0, .slice none 0 0] 29 (0, 0)) (KB_ BK121.out) hb)
            replace HB := Zz.mk (bT_ (B3_ HB.out GE101.out GE102.out GE121.out) hb)
            (try clear hb);(try clear hb2);(try clear hk);(try clear hi);(try clear ho0)
            obtain ⟨Ao65, co65, eo65⟩ := Kd.S_slice HO109.out
            (first | subst eo65 | (injection eo65 with f1_ f2_ f3_; have f4_ := f1_.symm; have f5_ := f3_.symm; clear f1_ f2_ f3_; subst f4_; subst f5_))
            obtain ⟨Ao66, co66, eo66⟩ := Kd.S_slice HO114.out
            (first | subst eo66 | (injection eo66 with f1_ f2_ f3_; have f4_ := f1_.symm; have f5_ := f3_.symm; clear f1_ f2_ f3_; subst f4_; subst f5_))
            refine hK.out _ _ ⟨(bC_ BK101.out 0).trans rfl, (bC_ BK101.out 1).trans rfl, (bC_ BK101.out 2).trans rfl, (bC_ BK102.out 0).trans rfl, (bC_ BK102.out 1).trans rfl, (bC_ BK102.out 2).trans rfl⟩ (fun hHeld => ?_)
            clear hK K
            refine NM_ (N := (some 31)) (h := ?_)
            refine one_ (i := 4) (N := some 32) (tb_ 11 287) rfl rfl (one_of HT_.out (by kernel_rfl)) (by decide) (fun K hK => ?_)
            refine GO_ Try.func21 #[.agg #[.int .i64 t105, .int .i64 t106, .slice Ao65 t107.length co65], .agg #[.int .i64 t110, .int .i64 t111, .slice Ao66 t112.length co66]] (h := ?_)
            with_reducible refine (z21.calls k t105 t106 (fun k_ => ((((((True ∧ nan61 ≤ k_) ∧ some k_ ≠ (.slice Ao66 t112.length co66 : Value).ownBlock) ∧ k_ < nan64) ∧ k_ ≠ gb101) ∧ k_ ≠ gb102) ∧ k_ ≠ gb121)) _ _ t107 t110 t111 (fun k_ => (((((True ∧ some k_ ≠ (.slice Ao65 t107.length co65 : Value).ownBlock) ∧ nan64 ≤ k_) ∧ k_ ≠ gb101) ∧ k_ ≠ gb102) ∧ k_ ≠ gb121)) _ _ t112 t115 t116 t117 t120 _ ?side1 ?side2 A21.out).mono ?_
            (case side1 => exact Kd.S_V (Kd.S_types (Kd.S_types (Kd.S_types (HO109.out) BK101.out (by decide)) BK102.out (by decide)) BK121.out (by decide)))
            (case side2 => exact Kd.S_V (Kd.S_types (Kd.S_types (Kd.S_types (HO114.out) BK101.out (by decide)) BK102.out (by decide)) BK121.out (by decide)))
            rintro e w67 ⟨v118, rfl, ho0, hb⟩
            refine ⟨_, rfl, ?_⟩
            have HO119 := Zz.mk (Kd.S_lower (Kd.S_new' (Kd.S_new' (Kd.S_mono (ok' := fun k_ => True) ho0 (fun _ hk_ => trivial)) (Kd.S_lt (KS_ HO109.out))) (Kd.S_lt (KS_ HO114.out))) (bS_ (B3_ HB.out GE101.out GE102.out GE121.out)))
            replace HO109 := Zz.mk (Kd.S_elder' (KS_ HO109.out) (Kd.S_base ho0) hb)
            replace HO114 := Zz.mk (Kd.S_elder' (KS_ HO114.out) (Kd.S_base ho0) hb)
            replace BK101 := Zz.mk (bB_ (g := gb101) (o := .cells #[.int .i64 a0_0, .int .i64 a0_1, .slice A0_2 l0_2.length c0_2] 24 (0, 0)) (KB_ BK101.out) hb)
            replace BK102 := Zz.mk (bB_ (g := gb102) (o := .cells #[.int .i64 a1_0, .int .i64 a1_1, .slice A1_2 l1_2.length c1_2] 24 (0, 0)) (KB_ BK102.out) hb)
            replace BK121 := Zz.mk (bB_ (g := gb121) (o := .cells #[.int .i64 0, .int .i64 0, .slice none 0 0] 29 (0, 0)) (KB_ BK121.out) hb)
            replace HB := Zz.mk (bT_ (B3_ HB.out GE101.out GE102.out GE121.out) hb)
            (try clear hb);(try clear hb2);(try clear hk);(try clear hi);(try clear ho0)
            refine hK.out _ _ ⟨(bC_ BK101.out 0).trans rfl, (bC_ BK101.out 1).trans rfl, (bC_ BK101.out 2).trans rfl, (bC_ BK102.out 0).trans rfl, (bC_ BK102.out 1).trans rfl, (bC_ BK102.out 2).trans rfl⟩ (fun hHeld => ?_)
            clear hK K
            refine NM_ (N := (some 32)) (h := ?_)
            refine PX_ 5 27 (tb_ 11 319) HT_ rfl rfl ?_
            refine PX_ 6 33 (tb_ 11 383) HT_ rfl rfl ?_
            refine PX_ 7 34 (tb_ 11 511) HT_ rfl rfl ?_
            exact norm_ (by simp only [putAll, Act.put, List.setIfInBounds_toArray, List.set_cons_zero, List.set_cons_succ]) (hCont (.slice Ao65 t107.length co65, .slice Ao66 t112.length co66, v118, gb121) _ ⟨hHeld, (by refine SW_ ?_; exact Kd.S_mono HO109.out (fun _ hk => ⟨hk.1.1.2, hk.2⟩)), (by refine SW_ ?_; exact Kd.S_mono HO114.out (fun _ hk => ⟨hk.1.1.2, hk.2⟩)), (by refine SW_ ?_; exact Kd.S_mono HO119.out (fun _ hk => ⟨hk.1.2, hk.2⟩)), (KB_ BK101.out), (KB_ BK102.out), (KB_ BK121.out), GW121.out, GE121.out, NB101_121.out, NB121_101.out, NB102_121.out, NB121_102.out, (B3_ HB.out GE101.out GE102.out GE121.out)⟩)
           skip
           refine box_step ?hg (N := 6) ?hd (cs := #[.int .i64 0, .int .i64 0, .slice none 0 0]) (t := 29) ?hr ?_; (case hd => rfl); (case hg => rfl); (case hr => first | (go_simp; done) | (go_simp; rfl))
           intro gb121 hg w60 hbox hb
           have BK121 := Zz.mk (hbox)
           have GW121 := Zz.mk ((by rw [hg]; exact (bS_ (B2_ HB.out GE101.out GE102.out)) : w.heap.size ≤ gb121))
           have GE121 := GW121
           have NB101_121 := Zz.mk ((by rw [hg]; exact Nat.ne_of_lt (blk_lt (g := gb101) (o := .cells #[.int .i64 a0_0, .int .i64 a0_1, .slice A0_2 l0_2.length c0_2] 24 (0, 0)) (KB_ BK101.out)) : gb101 ≠ gb121))
           have NB121_101 := Zz.mk NB101_121.out.symm
           have NB102_121 := Zz.mk ((by rw [hg]; exact Nat.ne_of_lt (blk_lt (g := gb102) (o := .cells #[.int .i64 a1_0, .int .i64 a1_1, .slice A1_2 l1_2.length c1_2] 24 (0, 0)) (KB_ BK102.out)) : gb102 ≠ gb121))
           have NB121_102 := Zz.mk NB102_121.out.symm
           replace BK101 := Zz.mk (bB_ (g := gb101) (o := .cells #[.int .i64 a0_0, .int .i64 a0_1, .slice A0_2 l0_2.length c0_2] 24 (0, 0)) (KB_ BK101.out) hb)
           replace BK102 := Zz.mk (bB_ (g := gb102) (o := .cells #[.int .i64 a1_0, .int .i64 a1_1, .slice A1_2 l1_2.length c1_2] 24 (0, 0)) (KB_ BK102.out) hb)
           replace HB := Zz.mk (bT_ (B2_ HB.out GE101.out GE102.out) hb)
           clear hb hbox hg
           refine hK.out _ _ ⟨(bC_ BK101.out 0).trans rfl, (bC_ BK101.out 1).trans rfl, (bC_ BK101.out 2).trans rfl, (bC_ BK102.out 0).trans rfl, (bC_ BK102.out 1).trans rfl, (bC_ BK102.out 2).trans rfl⟩ (fun hHeld => ?_)
           clear hK K
           refine NM_ (N := (some 6)) (h := ?_)
           refine one_ (i := 1) (N := some 29) (tb_ 11 263) rfl rfl (one_of HT_.out (by kernel_rfl)) (by decide) (fun K hK => ?_)
           refine GO_ Try.func13 #[.agg #[.int .i64 a0_0, .int .i64 a0_1, .slice A0_2 l0_2.length c0_2]] (h := ?_)
           with_reducible refine (z13.calls k a0_0 a0_1 _ _ l0_2 t105 t106 t107 _ ?side1 ?side2 A19.out).mono ?_
           (case side1 => exact KC_ (Kd.C_below HR0_2.out HB.out))
           (case side2 => exact HC0_2.out)
           rintro e w61 ⟨v108, rfl, ho0, hb⟩
           refine ⟨_, rfl, ?_⟩
           obtain ⟨nan62, hnan62⟩ := Kd.size_letter hb
           have HO109 := Zz.mk (Kd.S_lower (Kd.S_geN ho0 hnan62) (bS_ (B3_ HB.out GE101.out GE102.out GE121.out)))
           replace BK101 := Zz.mk (bB_ (g := gb101) (o := .cells #[.int .i64 a0_0, .int .i64 a0_1, .slice A0_2 l0_2.length c0_2] 24 (0, 0)) (KB_ BK101.out) hb)
           replace BK102 := Zz.mk (bB_ (g := gb102) (o := .cells #[.int .i64 a1_0, .int .i64 a1_1, .slice A1_2 l1_2.length c1_2] 24 (0, 0)) (KB_ BK102.out) hb)
           replace BK121 := Zz.mk (bB_ (g := gb121) (o := .cells #[.int .i64 0, .int .i64 0, .slice none 0 0] 29 (0, 0)) (KB_ BK121.out) hb)
           replace HB := Zz.mk (bT_ (B3_ HB.out GE101.out GE102.out GE121.out) hb)
           (try clear hb);(try clear hb2);(try clear hk);(try clear hi);(try clear ho0)
           refine hK.out _ _ ⟨(bC_ BK101.out 0).trans rfl, (bC_ BK101.out 1).trans rfl, (bC_ BK101.out 2).trans rfl, (bC_ BK102.out 0).trans rfl, (bC_ BK102.out 1).trans rfl, (bC_ BK102.out 2).trans rfl⟩ (fun hHeld => ?_)
           clear hK K
           refine NM_ (N := (some 29)) (h := ?_)
           refine one_ (i := 3) (N := some 31) (tb_ 11 271) rfl rfl (one_of HT_.out (by kernel_rfl)) (by decide) (fun K hK => ?_)
           refine GO_ Try.func13 #[.agg #[.int .i64 a1_0, .int .i64 a1_1, .slice A1_2 l1_2.length c1_2]] (h := ?_)
           with_reducible refine (z13.calls k a1_0 a1_1 _ _ l1_2 t110 t111 t112 _ ?side1 ?side2 A20.out).mono ?_
           (case side1 => exact KC_ (Kd.C_below HR1_2.out HB.out))
           (case side2 => exact HC1_2.out)
           rintro e w63 ⟨v113, rfl, ho0, hb⟩
           refine ⟨_, rfl, ?_⟩
           obtain ⟨nan64, hnan64⟩ := Kd.size_letter hb
           have HO114 := Zz.mk (Kd.S_lower (Kd.S_geN (Kd.S_new' ho0 (Kd.S_lt (KS_ HO109.out))) hnan64) (bS_ (B3_ HB.out GE101.out GE102.out GE121.out)))
           replace HO109 := Zz.mk (Kd.S_told (Kd.S_oldN (KS_ HO109.out) hb hnan64) (Kd.S_baseN ho0 hnan64))
           replace BK101 := Zz.mk (bB_ (g := gb101) (o := .cells #[.int .i64 a0_0, .int .i64 a0_1, .slice A0_2 l0_2.length c0_2] 24 (0, 0)) (KB_ BK101.out) hb)
           replace BK102 := Zz.mk (bB_ (g := gb102) (o := .cells #[.int .i64 a1_0, .int .i64 a1_1, .slice A1_2 l1_2.length c1_2] 24 (0, 0)) (KB_ BK102.out) hb)
           replace BK121 := Zz.mk (bB_ (g := gb121) (o := .cells #[.int .i64 0, .int .i64 0, .slice none 0 0] 29 (0, 0)) (KB_ BK121.out) hb)
           replace HB := Zz.mk (bT_ (B3_ HB.out GE101.out GE102.out GE121.out) hb)
           (try clear hb);(try clear hb2);(try clear hk);(try clear hi);(try clear ho0)
           obtain ⟨Ao65, co65, eo65⟩ := Kd.S_slice HO109.out
           (first | subst eo65 | (injection eo65 with f1_ f2_ f3_; have f4_ := f1_.symm; have f5_ := f3_.symm; clear f1_ f2_ f3_; subst f4_; subst f5_))
           obtain ⟨Ao66, co66, eo66⟩ := Kd.S_slice HO114.out
           (first | subst eo66 | (injection eo66 with f1_ f2_ f3_; have f4_ := f1_.symm; have f5_ := f3_.symm; clear f1_ f2_ f3_; subst f4_; subst f5_))
           refine hK.out _ _ ⟨(bC_ BK101.out 0).trans rfl, (bC_ BK101.out 1).trans rfl, (bC_ BK101.out 2).trans rfl, (bC_ BK102.out 0).trans rfl, (bC_ BK102.out 1).trans rfl, (bC_ BK102.out 2).trans rfl⟩ (fun hHeld => ?_)
           clear hK K
           refine NM_ (N := (some 31)) (h := ?_)
           refine one_ (i := 4) (N := some 32) (tb_ 11 287) rfl rfl (one_of HT_.out (by kernel_rfl)) (by decide) (fun K hK => ?_)
           refine GO_ Try.func21 #[.agg #[.int .i64 t105, .int .i64 t106, .slice Ao65 t107.length co65], .agg #[.int .i64 t110, .int .i64 t111, .slice Ao66 t112.length co66]] (h := ?_)
           with_reducible refine (z21.calls k t105 t106 (fun k_ => ((((((True ∧ nan62 ≤ k_) ∧ some k_ ≠ (.slice Ao66 t112.length co66 : Value).ownBlock) ∧ k_ < nan64) ∧ k_ ≠ gb101) ∧ k_ ≠ gb102) ∧ k_ ≠ gb121)) _ _ t107 t110 t111 (fun k_ => (((((True ∧ some k_ ≠ (.slice Ao65 t107.length co65 : Value).ownBlock) ∧ nan64 ≤ k_) ∧ k_ ≠ gb101) ∧ k_ ≠ gb102) ∧ k_ ≠ gb121)) _ _ t112 t115 t116 t117 t120 _ ?side1 ?side2 A21.out).mono ?_
           (case side1 => exact Kd.S_V (Kd.S_types (Kd.S_types (Kd.S_types (HO109.out) BK101.out (by decide)) BK102.out (by decide)) BK121.out (by decide)))
           (case side2 => exact Kd.S_V (Kd.S_types (Kd.S_types (Kd.S_types (HO114.out) BK101.out (by decide)) BK102.out (by decide)) BK121.out (by decide)))
           rintro e w67 ⟨v118, rfl, ho0, hb⟩
           refine ⟨_, rfl, ?_⟩
           have HO119 := Zz.mk (Kd.S_lower (Kd.S_new' (Kd.S_new' (Kd.S_mono (ok' := fun k_ => True) ho0 (fun _ hk_ => trivial)) (Kd.S_lt (KS_ HO109.out))) (Kd.S_lt (KS_ HO114.out))) (bS_ (B3_ HB.out GE101.out GE102.out GE121.out)))
           replace HO109 := Zz.mk (Kd.S_elder' (KS_ HO109.out) (Kd.S_base ho0) hb)
           replace HO114 := Zz.mk (Kd.S_elder' (KS_ HO114.out) (Kd.S_base ho0) hb)
           replace BK101 := Zz.mk (bB_ (g := gb101) (o := .cells #[.int .i64 a0_0, .int .i64 a0_1, .slice A0_2 l0_2.length c0_2] 24 (0, 0)) (KB_ BK101.out) hb)
           replace BK102 := Zz.mk (bB_ (g := gb102) (o := .cells #[.int .i64 a1_0, .int .i64 a1_1, .slice A1_2 l1_2.length c1_2] 24 (0, 0)) (KB_ BK102.out) hb)
           replace BK121 := Zz.mk (bB_ (g := gb121) (o := .cells #[.int .i64 0, .int .i64 0, .slice none 0 0] 29 (0, 0)) (KB_ BK121.out) hb)
           replace HB := Zz.mk (bT_ (B3_ HB.out GE101.out GE102.out GE121.out) hb)
           (try clear hb);(try clear hb2);(try clear hk);(try clear hi);(try clear ho0)
           refine hK.out _ _ ⟨(bC_ BK101.out 0).trans rfl, (bC_ BK101.out 1).trans rfl, (bC_ BK101.out 2).trans rfl, (bC_ BK102.out 0).trans rfl, (bC_ BK102.out 1).trans rfl, (bC_ BK102.out 2).trans rfl⟩ (fun hHeld => ?_)
           clear hK K
           refine NM_ (N := (some 32)) (h := ?_)
           refine PX_ 5 27 (tb_ 11 319) HT_ rfl rfl ?_
           refine PX_ 6 33 (tb_ 11 383) HT_ rfl rfl ?_
           refine PX_ 7 34 (tb_ 11 511) HT_ rfl rfl ?_
           exact norm_ (by simp only [putAll, Act.put, List.setIfInBounds_toArray, List.set_cons_zero, List.set_cons_succ]) (hCont (.slice Ao65 t107.length co65, .slice Ao66 t112.length co66, v118, gb121) _ ⟨hHeld, (by refine SW_ ?_; exact Kd.S_mono HO109.out (fun _ hk => ⟨hk.1.1.2, hk.2⟩)), (by refine SW_ ?_; exact Kd.S_mono HO114.out (fun _ hk => ⟨hk.1.1.2, hk.2⟩)), (by refine SW_ ?_; exact Kd.S_mono HO119.out (fun _ hk => ⟨hk.1.2, hk.2⟩)), (KB_ BK101.out), (KB_ BK102.out), (KB_ BK121.out), GW121.out, GE121.out, NB101_121.out, NB121_101.out, NB102_121.out, NB121_102.out, (B3_ HB.out GE101.out GE102.out GE121.out)⟩)
          rintro ⟨v108, v113, v118, gb121⟩ w68 ⟨hS_, h0_, h1_, h2_, h3_, h4_, h5_, h6_, h7_, h8_, h9_, h10_, h11_, h12_⟩
          have HO109 : Zz (Kd.S (Kd.slice 2 (Kd.int .i64)) 25 w68 w.heap.size (fun k_ => some k_ ≠ (v113 : Value).ownBlock ∧ some k_ ≠ (v118 : Value).ownBlock) v108 t107) := ⟨h0_⟩
          have HO114 : Zz (Kd.S (Kd.slice 2 (Kd.int .i64)) 25 w68 w.heap.size (fun k_ => some k_ ≠ (v108 : Value).ownBlock ∧ some k_ ≠ (v118 : Value).ownBlock) v113 t112) := ⟨h1_⟩
          have HO119 : Zz (Kd.S (Kd.slice 2 (Kd.int .i64)) 25 w68 w.heap.size (fun k_ => some k_ ≠ (v108 : Value).ownBlock ∧ some k_ ≠ (v113 : Value).ownBlock) v118 t117) := ⟨h2_⟩
          have BK121 : Zz (w68.heap[gb121]? = some (.cells #[.int .i64 0, .int .i64 0, .slice none 0 0] 29 (0, 0))) := ⟨h5_⟩
          have GW121 : Zz (w.heap.size ≤ gb121) := ⟨h6_⟩
          have GE121 : Zz (w.heap.size ≤ gb121) := ⟨h7_⟩
          have NB101_121 : Zz (gb101 ≠ gb121) := ⟨h8_⟩
          have NB121_101 : Zz (gb121 ≠ gb101) := ⟨h9_⟩
          have NB102_121 : Zz (gb102 ≠ gb121) := ⟨h10_⟩
          have NB121_102 : Zz (gb121 ≠ gb102) := ⟨h11_⟩
          replace BK101 : Zz (w68.heap[gb101]? = some (.cells #[.int .i64 a0_0, .int .i64 a0_1, .slice A0_2 l0_2.length c0_2] 24 (0, 0))) := ⟨h3_⟩
          replace BK102 : Zz (w68.heap[gb102]? = some (.cells #[.int .i64 a1_0, .int .i64 a1_1, .slice A1_2 l1_2.length c1_2] 24 (0, 0))) := ⟨h4_⟩
          replace HB : Zz (Below w.heap.size w w68) := ⟨h12_⟩
          (try clear h0_)
          (try clear h1_)
          (try clear h2_)
          (try clear h3_)
          (try clear h4_)
          (try clear h5_)
          (try clear h6_)
          (try clear h7_)
          (try clear h8_)
          (try clear h9_)
          (try clear h10_)
          (try clear h11_)
          (try clear h12_)
          have hHeld : w68.cell? ⟨gb101, 0, none⟩ = some (.int .i64 a0_0) ∧ w68.cell? ⟨gb101, 1, none⟩ = some (.int .i64 a0_1) ∧ w68.cell? ⟨gb101, 2, none⟩ = some (.slice A0_2 l0_2.length c0_2) ∧ w68.cell? ⟨gb102, 0, none⟩ = some (.int .i64 a1_0) ∧ w68.cell? ⟨gb102, 1, none⟩ = some (.int .i64 a1_1) ∧ w68.cell? ⟨gb102, 2, none⟩ = some (.slice A1_2 l1_2.length c1_2) := hS_
          obtain ⟨Ao71, co71, eo71⟩ := Kd.S_slice HO119.out
          (first | subst eo71 | (injection eo71 with f1_ f2_ f3_; have f4_ := f1_.symm; have f5_ := f3_.symm; clear f1_ f2_ f3_; subst f4_; subst f5_))
          refine norm_ (a' := ?_) ?_ ?_
          rotate_left
          ·simp only [putAll, Act.put, List.setIfInBounds_toArray, List.set_cons_zero, List.set_cons_succ]
           rfl
          refine one_ (i := 9) (N := none) (tb_ 11 1023) rfl rfl (one_of HT_.out (by kernel_rfl)) (by decide) (fun K hK => ?_)
          have hs69 : w68.cell? ⟨gb121, 0, none⟩ = some (.int .i64 0) := (bC_ BK121.out 0).trans rfl
          have hfs69 := bF_ BK121.out 0
          have hns69_0 := NB101_121.out
          have hns69_1 := NB102_121.out
          have hms69_0 := NB121_101.out
          have hms69_1 := NB121_102.out
          have hs70 : w68.cell? ⟨gb121, 1, none⟩ = some (.int .i64 0) := (bC_ BK121.out 1).trans rfl
          have hfs70 := bF_ BK121.out 1
          have hns70_0 := NB101_121.out
          have hns70_1 := NB102_121.out
          have hms70_0 := NB121_101.out
          have hms70_1 := NB121_102.out
          have hs72 : w68.cell? ⟨gb121, 2, none⟩ = some (.slice none 0 0) := (bC_ BK121.out 2).trans rfl
          have hfs72 := bF_ BK121.out 2
          have hns72_0 := NB101_121.out
          have hns72_1 := NB102_121.out
          have hms72_0 := NB121_101.out
          have hms72_1 := NB121_102.out
          refine skip_ (w1 := ?_) (by rfl) rfl ?_ ?_
          rotate_left
          ·go_simp
           rfl
          refine hK.out _ _ ⟨((cell_far (p := ⟨gb121, _, none⟩) NB101_121.out _).trans (((cell_far (p := ⟨gb121, _, none⟩) NB101_121.out _).trans (((cell_far (p := ⟨gb121, _, none⟩) NB101_121.out _).trans (hHeld.1)))))), ((cell_far (p := ⟨gb121, _, none⟩) NB101_121.out _).trans (((cell_far (p := ⟨gb121, _, none⟩) NB101_121.out _).trans (((cell_far (p := ⟨gb121, _, none⟩) NB101_121.out _).trans (hHeld.2.1)))))), ((cell_far (p := ⟨gb121, _, none⟩) NB101_121.out _).trans (((cell_far (p := ⟨gb121, _, none⟩) NB101_121.out _).trans (((cell_far (p := ⟨gb121, _, none⟩) NB101_121.out _).trans (hHeld.2.2.1)))))), ((cell_far (p := ⟨gb121, _, none⟩) NB102_121.out _).trans (((cell_far (p := ⟨gb121, _, none⟩) NB102_121.out _).trans (((cell_far (p := ⟨gb121, _, none⟩) NB102_121.out _).trans (hHeld.2.2.2.1)))))), ((cell_far (p := ⟨gb121, _, none⟩) NB102_121.out _).trans (((cell_far (p := ⟨gb121, _, none⟩) NB102_121.out _).trans (((cell_far (p := ⟨gb121, _, none⟩) NB102_121.out _).trans (hHeld.2.2.2.2.1)))))), ((cell_far (p := ⟨gb121, _, none⟩) NB102_121.out _).trans (((cell_far (p := ⟨gb121, _, none⟩) NB102_121.out _).trans (((cell_far (p := ⟨gb121, _, none⟩) NB102_121.out _).trans (hHeld.2.2.2.2.2))))))⟩ (fun hHeld => ?_)
          clear hK K
          refine PX_ 10 7 (tb_ 11 2047) HT_ rfl rfl ?_
          refine done_ (done_of HT_.out (by kernel_rfl)) ?_
          have hnb73 := NB101_121.out
          have hnc73 := NB121_101.out
          obtain ⟨hcz74_0, hcz74_1, hcz74_2, hfz74_0, hfz74_1, hfz74_2⟩ := Z3f_ BK101.out
          try go_wp2_with (first | ((with_reducible refine gC_ (f := 13) rfl ?_); refine GL_ (some 36) rfl rfl Try.func13 #[.agg #[.int .i64 a0_0, .int .i64 a0_1, .slice A0_2 l0_2.length c0_2]] rfl (h := ?_); (with_reducible refine (z13.calls k a0_0 a0_1 _ _ l0_2 t122 t123 t124 _ ?side1 ?side2 A22.out).mono ?_); (case side1 => exact Kd.C_below HR0_2.out (B3_ HB.out GE101.out GE102.out GE121.out)); (case side2 => exact HC0_2.out); rintro e w75 ⟨v125, rfl, ho0, hb⟩; refine ⟨_, rfl, ?_⟩; obtain ⟨nan76, hnan76⟩ := Kd.size_letter hb; have HO126 := Zz.mk (Kd.S_lower (Kd.S_geN (Kd.S_new' (Kd.S_new' (Kd.S_new' ho0 (Kd.S_lt (by refine SW_ ?_; exact (Kd.S_mono (Kd.S_far (p := ⟨gb121, 2, none⟩) (Kd.S_far (p := ⟨gb121, 1, none⟩) (Kd.S_far (p := ⟨gb121, 0, none⟩) (Kd.S_types HO109.out BK121.out (by decide)) (fun _ hk => hk.2) (.int .i64 t115)) (fun _ hk => hk.2) (.int .i64 t116)) (fun _ hk => hk.2) (.slice Ao71 t117.length co71)) (fun _ h_ => h_.1))))) (Kd.S_lt (by refine SW_ ?_; exact (Kd.S_mono (Kd.S_far (p := ⟨gb121, 2, none⟩) (Kd.S_far (p := ⟨gb121, 1, none⟩) (Kd.S_far (p := ⟨gb121, 0, none⟩) (Kd.S_types HO114.out BK121.out (by decide)) (fun _ hk => hk.2) (.int .i64 t115)) (fun _ hk => hk.2) (.int .i64 t116)) (fun _ hk => hk.2) (.slice Ao71 t117.length co71)) (fun _ h_ => h_.1))))) (Kd.S_lt (by refine SW_ ?_; exact (Kd.S_mono (Kd.S_far (p := ⟨gb121, 2, none⟩) (Kd.S_far (p := ⟨gb121, 1, none⟩) (Kd.S_far (p := ⟨gb121, 0, none⟩) (Kd.S_types HO119.out BK121.out (by decide)) (fun _ hk => hk.2) (.int .i64 t115)) (fun _ hk => hk.2) (.int .i64 t116)) (fun _ hk => hk.2) (.slice Ao71 t117.length co71)) (fun _ h_ => h_.1))))) hnan76) (bS_ (B3_ HB.out GE101.out GE102.out GE121.out))); replace HO109 := Zz.mk (Kd.S_told (Kd.S_oldN (by refine SW_ ?_; exact (Kd.S_mono (Kd.S_far (p := ⟨gb121, 2, none⟩) (Kd.S_far (p := ⟨gb121, 1, none⟩) (Kd.S_far (p := ⟨gb121, 0, none⟩) (Kd.S_types HO109.out BK121.out (by decide)) (fun _ hk => hk.2) (.int .i64 t115)) (fun _ hk => hk.2) (.int .i64 t116)) (fun _ hk => hk.2) (.slice Ao71 t117.length co71)) (fun _ h_ => h_.1))) hb hnan76) (Kd.S_baseN ho0 hnan76)); replace HO114 := Zz.mk (Kd.S_told (Kd.S_oldN (by refine SW_ ?_; exact (Kd.S_mono (Kd.S_far (p := ⟨gb121, 2, none⟩) (Kd.S_far (p := ⟨gb121, 1, none⟩) (Kd.S_far (p := ⟨gb121, 0, none⟩) (Kd.S_types HO114.out BK121.out (by decide)) (fun _ hk => hk.2) (.int .i64 t115)) (fun _ hk => hk.2) (.int .i64 t116)) (fun _ hk => hk.2) (.slice Ao71 t117.length co71)) (fun _ h_ => h_.1))) hb hnan76) (Kd.S_baseN ho0 hnan76)); replace HO119 := Zz.mk (Kd.S_told (Kd.S_oldN (by refine SW_ ?_; exact (Kd.S_mono (Kd.S_far (p := ⟨gb121, 2, none⟩) (Kd.S_far (p := ⟨gb121, 1, none⟩) (Kd.S_far (p := ⟨gb121, 0, none⟩) (Kd.S_types HO119.out BK121.out (by decide)) (fun _ hk => hk.2) (.int .i64 t115)) (fun _ hk => hk.2) (.int .i64 t116)) (fun _ hk => hk.2) (.slice Ao71 t117.length co71)) (fun _ h_ => h_.1))) hb hnan76) (Kd.S_baseN ho0 hnan76)); replace BK101 := Zz.mk (bB_ (g := gb101) (o := .cells #[.int .i64 a0_0, .int .i64 a0_1, .slice A0_2 l0_2.length c0_2] 24 (0, 0)) (by refine BW_ ?_; refine bR_ ?_ NB101_121.out _; refine BW_ ?_; refine bR_ ?_ NB101_121.out _; refine BW_ ?_; refine bR_ ?_ NB101_121.out _; refine BW_ ?_; exact BK101.out) hb); replace BK102 := Zz.mk (bB_ (g := gb102) (o := .cells #[.int .i64 a1_0, .int .i64 a1_1, .slice A1_2 l1_2.length c1_2] 24 (0, 0)) (by refine BW_ ?_; refine bR_ ?_ NB102_121.out _; refine BW_ ?_; refine bR_ ?_ NB102_121.out _; refine BW_ ?_; refine bR_ ?_ NB102_121.out _; refine BW_ ?_; exact BK102.out) hb); replace BK121 := Zz.mk (bB_ (g := gb121) (o := .cells #[.int .i64 t115, .int .i64 t116, .slice Ao71 t117.length co71] 29 (0, 0)) (by refine BW_ ?_; refine bP_ (cs := #[.int .i64 t115, .int .i64 t116, .slice none 0 0]) ?_ 2 _ rfl; refine BW_ ?_; refine bP_ (cs := #[.int .i64 t115, .int .i64 0, .slice none 0 0]) ?_ 1 _ rfl; refine BW_ ?_; refine bP_ (cs := #[.int .i64 0, .int .i64 0, .slice none 0 0]) ?_ 0 _ rfl; refine BW_ ?_; exact BK121.out) hb); replace HB := Zz.mk (bT_ (B3_ HB.out GE101.out GE102.out GE121.out) hb); (try clear hb); (try clear hb2); (try clear hk); (try clear hi); (try clear ho0)) | ((with_reducible refine gate_dst (N := 8) rfl ?_); refine box_event ?hg (N := 8) ?hd (cs := #[.int .i64 0, .int .i64 0, .slice none 0 0]) (t := 29) ?hr ?_; (case hd => rfl); (case hg => rfl); (case hr => first | (go_simp; done) | (go_simp; rfl)); intro gb127 hg w77 hbox hb; have BK127 := Zz.mk (hbox); have GW127 := Zz.mk ((by rw [hg]; exact (bS_ (B3_ HB.out GE101.out GE102.out GE121.out)) : w.heap.size ≤ gb127)); have GE127 := GW127; have NB101_127 := Zz.mk ((by rw [hg]; exact Nat.ne_of_lt (blk_lt (g := gb101) (o := .cells #[.int .i64 a0_0, .int .i64 a0_1, .slice A0_2 l0_2.length c0_2] 24 (0, 0)) (KB_ BK101.out)) : gb101 ≠ gb127)); have NB127_101 := Zz.mk NB101_127.out.symm; have NB102_127 := Zz.mk ((by rw [hg]; exact Nat.ne_of_lt (blk_lt (g := gb102) (o := .cells #[.int .i64 a1_0, .int .i64 a1_1, .slice A1_2 l1_2.length c1_2] 24 (0, 0)) (KB_ BK102.out)) : gb102 ≠ gb127)); have NB127_102 := Zz.mk NB102_127.out.symm; have NB121_127 := Zz.mk ((by rw [hg]; exact Nat.ne_of_lt (blk_lt (g := gb121) (o := .cells #[.int .i64 t115, .int .i64 t116, .slice Ao71 t117.length co71] 29 (0, 0)) (KB_ BK121.out)) : gb121 ≠ gb127)); have NB127_121 := Zz.mk NB121_127.out.symm; replace HO109 := Zz.mk (Kd.S_below (KS_ HO109.out) hb); replace HO114 := Zz.mk (Kd.S_below (KS_ HO114.out) hb); replace HO119 := Zz.mk (Kd.S_below (KS_ HO119.out) hb); replace HO126 := Zz.mk (Kd.S_below (KS_ HO126.out) hb); replace BK101 := Zz.mk (bB_ (g := gb101) (o := .cells #[.int .i64 a0_0, .int .i64 a0_1, .slice A0_2 l0_2.length c0_2] 24 (0, 0)) (KB_ BK101.out) hb); replace BK102 := Zz.mk (bB_ (g := gb102) (o := .cells #[.int .i64 a1_0, .int .i64 a1_1, .slice A1_2 l1_2.length c1_2] 24 (0, 0)) (KB_ BK102.out) hb); replace BK121 := Zz.mk (bB_ (g := gb121) (o := .cells #[.int .i64 t115, .int .i64 t116, .slice Ao71 t117.length co71] 29 (0, 0)) (KB_ BK121.out) hb); replace HB := Zz.mk (bT_ (B3_ HB.out GE101.out GE102.out GE121.out) hb); clear hb hbox hg; have hnb78 := NB127_101.out; have hnc78 := NB101_127.out; have hnb79 := NB127_102.out; have hnc79 := NB102_127.out; have hnb80 := NB127_121.out; have hnc80 := NB121_127.out; obtain ⟨hcz81_0, hcz81_1, hcz81_2, hfz81_0, hfz81_1, hfz81_2⟩ := Z3f_ BK127.out; obtain ⟨Ao82, co82, eo82⟩ := Kd.S_slice HO126.out; subst eo82; have hnb83 := NB102_121.out; have hnc83 := NB121_102.out; obtain ⟨hcz84_0, hcz84_1, hcz84_2, hfz84_0, hfz84_1, hfz84_2⟩ := Z3f_ BK102.out) | ((with_reducible refine gC_ (f := 13) rfl ?_); refine GL_ (some 38) rfl rfl Try.func13 #[.agg #[.int .i64 a1_0, .int .i64 a1_1, .slice A1_2 l1_2.length c1_2]] rfl (h := ?_); (with_reducible refine (z13.calls k a1_0 a1_1 _ _ l1_2 t128 t129 t130 _ ?side1 ?side2 A23.out).mono ?_); (case side1 => exact Kd.C_below HR1_2.out (Bw4_ HB.out GE101.out GE102.out GE121.out GE127.out)); (case side2 => exact HC1_2.out); rintro e w85 ⟨v131, rfl, ho0, hb⟩; refine ⟨_, rfl, ?_⟩; obtain ⟨nan86, hnan86⟩ := Kd.size_letter hb; have HO132 := Zz.mk (Kd.S_lower (Kd.S_geN (Kd.S_new' (Kd.S_new' (Kd.S_new' (Kd.S_new' ho0 (Kd.S_lt (by refine SW_ ?_; exact (Kd.S_mono (Kd.S_far (p := ⟨gb127, 2, none⟩) (Kd.S_far (p := ⟨gb127, 1, none⟩) (Kd.S_far (p := ⟨gb127, 0, none⟩) (Kd.S_types HO109.out BK127.out (by decide)) (fun _ hk => hk.2) (.int .i64 t122)) (fun _ hk => hk.2) (.int .i64 t123)) (fun _ hk => hk.2) (.slice Ao82 t124.length co82)) (fun _ h_ => h_.1))))) (Kd.S_lt (by refine SW_ ?_; exact (Kd.S_mono (Kd.S_far (p := ⟨gb127, 2, none⟩) (Kd.S_far (p := ⟨gb127, 1, none⟩) (Kd.S_far (p := ⟨gb127, 0, none⟩) (Kd.S_types HO114.out BK127.out (by decide)) (fun _ hk => hk.2) (.int .i64 t122)) (fun _ hk => hk.2) (.int .i64 t123)) (fun _ hk => hk.2) (.slice Ao82 t124.length co82)) (fun _ h_ => h_.1))))) (Kd.S_lt (by refine SW_ ?_; exact (Kd.S_mono (Kd.S_far (p := ⟨gb127, 2, none⟩) (Kd.S_far (p := ⟨gb127, 1, none⟩) (Kd.S_far (p := ⟨gb127, 0, none⟩) (Kd.S_types HO119.out BK127.out (by decide)) (fun _ hk => hk.2) (.int .i64 t122)) (fun _ hk => hk.2) (.int .i64 t123)) (fun _ hk => hk.2) (.slice Ao82 t124.length co82)) (fun _ h_ => h_.1))))) (Kd.S_lt (by refine SW_ ?_; exact (Kd.S_mono (Kd.S_far (p := ⟨gb127, 2, none⟩) (Kd.S_far (p := ⟨gb127, 1, none⟩) (Kd.S_far (p := ⟨gb127, 0, none⟩) (Kd.S_types HO126.out BK127.out (by decide)) (fun _ hk => hk.2) (.int .i64 t122)) (fun _ hk => hk.2) (.int .i64 t123)) (fun _ hk => hk.2) (.slice Ao82 t124.length co82)) (fun _ h_ => h_.1))))) hnan86) (bS_ (Bw4_ HB.out GE101.out GE102.out GE121.out GE127.out))); replace HO109 := Zz.mk (Kd.S_told (Kd.S_oldN (by refine SW_ ?_; exact (Kd.S_mono (Kd.S_far (p := ⟨gb127, 2, none⟩) (Kd.S_far (p := ⟨gb127, 1, none⟩) (Kd.S_far (p := ⟨gb127, 0, none⟩) (Kd.S_types HO109.out BK127.out (by decide)) (fun _ hk => hk.2) (.int .i64 t122)) (fun _ hk => hk.2) (.int .i64 t123)) (fun _ hk => hk.2) (.slice Ao82 t124.length co82)) (fun _ h_ => h_.1))) hb hnan86) (Kd.S_baseN ho0 hnan86)); replace HO114 := Zz.mk (Kd.S_told (Kd.S_oldN (by refine SW_ ?_; exact (Kd.S_mono (Kd.S_far (p := ⟨gb127, 2, none⟩) (Kd.S_far (p := ⟨gb127, 1, none⟩) (Kd.S_far (p := ⟨gb127, 0, none⟩) (Kd.S_types HO114.out BK127.out (by decide)) (fun _ hk => hk.2) (.int .i64 t122)) (fun _ hk => hk.2) (.int .i64 t123)) (fun _ hk => hk.2) (.slice Ao82 t124.length co82)) (fun _ h_ => h_.1))) hb hnan86) (Kd.S_baseN ho0 hnan86)); replace HO119 := Zz.mk (Kd.S_told (Kd.S_oldN (by refine SW_ ?_; exact (Kd.S_mono (Kd.S_far (p := ⟨gb127, 2, none⟩) (Kd.S_far (p := ⟨gb127, 1, none⟩) (Kd.S_far (p := ⟨gb127, 0, none⟩) (Kd.S_types HO119.out BK127.out (by decide)) (fun _ hk => hk.2) (.int .i64 t122)) (fun _ hk => hk.2) (.int .i64 t123)) (fun _ hk => hk.2) (.slice Ao82 t124.length co82)) (fun _ h_ => h_.1))) hb hnan86) (Kd.S_baseN ho0 hnan86)); replace HO126 := Zz.mk (Kd.S_told (Kd.S_oldN (by refine SW_ ?_; exact (Kd.S_mono (Kd.S_far (p := ⟨gb127, 2, none⟩) (Kd.S_far (p := ⟨gb127, 1, none⟩) (Kd.S_far (p := ⟨gb127, 0, none⟩) (Kd.S_types HO126.out BK127.out (by decide)) (fun _ hk => hk.2) (.int .i64 t122)) (fun _ hk => hk.2) (.int .i64 t123)) (fun _ hk => hk.2) (.slice Ao82 t124.length co82)) (fun _ h_ => h_.1))) hb hnan86) (Kd.S_baseN ho0 hnan86)); replace BK101 := Zz.mk (bB_ (g := gb101) (o := .cells #[.int .i64 a0_0, .int .i64 a0_1, .slice A0_2 l0_2.length c0_2] 24 (0, 0)) (by refine BW_ ?_; refine bR_ ?_ NB101_127.out _; refine BW_ ?_; refine bR_ ?_ NB101_127.out _; refine BW_ ?_; refine bR_ ?_ NB101_127.out _; refine BW_ ?_; exact BK101.out) hb); replace BK102 := Zz.mk (bB_ (g := gb102) (o := .cells #[.int .i64 a1_0, .int .i64 a1_1, .slice A1_2 l1_2.length c1_2] 24 (0, 0)) (by refine BW_ ?_; refine bR_ ?_ NB102_127.out _; refine BW_ ?_; refine bR_ ?_ NB102_127.out _; refine BW_ ?_; refine bR_ ?_ NB102_127.out _; refine BW_ ?_; exact BK102.out) hb); replace BK121 := Zz.mk (bB_ (g := gb121) (o := .cells #[.int .i64 t115, .int .i64 t116, .slice Ao71 t117.length co71] 29 (0, 0)) (by refine BW_ ?_; refine bR_ ?_ NB121_127.out _; refine BW_ ?_; refine bR_ ?_ NB121_127.out _; refine BW_ ?_; refine bR_ ?_ NB121_127.out _; refine BW_ ?_; exact BK121.out) hb); replace BK127 := Zz.mk (bB_ (g := gb127) (o := .cells #[.int .i64 t122, .int .i64 t123, .slice Ao82 t124.length co82] 29 (0, 0)) (by refine BW_ ?_; refine bP_ (cs := #[.int .i64 t122, .int .i64 t123, .slice none 0 0]) ?_ 2 _ rfl; refine BW_ ?_; refine bP_ (cs := #[.int .i64 t122, .int .i64 0, .slice none 0 0]) ?_ 1 _ rfl; refine BW_ ?_; refine bP_ (cs := #[.int .i64 0, .int .i64 0, .slice none 0 0]) ?_ 0 _ rfl; refine BW_ ?_; exact BK127.out) hb); replace HB := Zz.mk (bT_ (Bw4_ HB.out GE101.out GE102.out GE121.out GE127.out) hb); (try clear hb); (try clear hb2); (try clear hk); (try clear hi); (try clear ho0)) | ((with_reducible refine gate_dst (N := 9) rfl ?_); refine box_event ?hg (N := 9) ?hd (cs := #[.int .i64 0, .int .i64 0, .slice none 0 0]) (t := 29) ?hr ?_; (case hd => rfl); (case hg => rfl); (case hr => first | (go_simp; done) | (go_simp; rfl)); intro gb133 hg w87 hbox hb; have BK133 := Zz.mk (hbox); have GW133 := Zz.mk ((by rw [hg]; exact (bS_ (Bw4_ HB.out GE101.out GE102.out GE121.out GE127.out)) : w.heap.size ≤ gb133)); have GE133 := GW133; have NB101_133 := Zz.mk ((by rw [hg]; exact Nat.ne_of_lt (blk_lt (g := gb101) (o := .cells #[.int .i64 a0_0, .int .i64 a0_1, .slice A0_2 l0_2.length c0_2] 24 (0, 0)) (KB_ BK101.out)) : gb101 ≠ gb133)); have NB133_101 := Zz.mk NB101_133.out.symm; have NB102_133 := Zz.mk ((by rw [hg]; exact Nat.ne_of_lt (blk_lt (g := gb102) (o := .cells #[.int .i64 a1_0, .int .i64 a1_1, .slice A1_2 l1_2.length c1_2] 24 (0, 0)) (KB_ BK102.out)) : gb102 ≠ gb133)); have NB133_102 := Zz.mk NB102_133.out.symm; have NB121_133 := Zz.mk ((by rw [hg]; exact Nat.ne_of_lt (blk_lt (g := gb121) (o := .cells #[.int .i64 t115, .int .i64 t116, .slice Ao71 t117.length co71] 29 (0, 0)) (KB_ BK121.out)) : gb121 ≠ gb133)); have NB133_121 := Zz.mk NB121_133.out.symm; have NB127_133 := Zz.mk ((by rw [hg]; exact Nat.ne_of_lt (blk_lt (g := gb127) (o := .cells #[.int .i64 t122, .int .i64 t123, .slice Ao82 t124.length co82] 29 (0, 0)) (KB_ BK127.out)) : gb127 ≠ gb133)); have NB133_127 := Zz.mk NB127_133.out.symm; replace HO109 := Zz.mk (Kd.S_below (KS_ HO109.out) hb); replace HO114 := Zz.mk (Kd.S_below (KS_ HO114.out) hb); replace HO119 := Zz.mk (Kd.S_below (KS_ HO119.out) hb); replace HO126 := Zz.mk (Kd.S_below (KS_ HO126.out) hb); replace HO132 := Zz.mk (Kd.S_below (KS_ HO132.out) hb); replace BK101 := Zz.mk (bB_ (g := gb101) (o := .cells #[.int .i64 a0_0, .int .i64 a0_1, .slice A0_2 l0_2.length c0_2] 24 (0, 0)) (KB_ BK101.out) hb); replace BK102 := Zz.mk (bB_ (g := gb102) (o := .cells #[.int .i64 a1_0, .int .i64 a1_1, .slice A1_2 l1_2.length c1_2] 24 (0, 0)) (KB_ BK102.out) hb); replace BK121 := Zz.mk (bB_ (g := gb121) (o := .cells #[.int .i64 t115, .int .i64 t116, .slice Ao71 t117.length co71] 29 (0, 0)) (KB_ BK121.out) hb); replace BK127 := Zz.mk (bB_ (g := gb127) (o := .cells #[.int .i64 t122, .int .i64 t123, .slice Ao82 t124.length co82] 29 (0, 0)) (KB_ BK127.out) hb); replace HB := Zz.mk (bT_ (Bw4_ HB.out GE101.out GE102.out GE121.out GE127.out) hb); clear hb hbox hg; have hnb88 := NB133_101.out; have hnc88 := NB101_133.out; have hnb89 := NB133_102.out; have hnc89 := NB102_133.out; have hnb90 := NB133_121.out; have hnc90 := NB121_133.out; have hnb91 := NB133_127.out; have hnc91 := NB127_133.out; obtain ⟨hcz92_0, hcz92_1, hcz92_2, hfz92_0, hfz92_1, hfz92_2⟩ := Z3f_ BK133.out; obtain ⟨Ao93, co93, eo93⟩ := Kd.S_slice HO132.out; subst eo93; obtain ⟨hcz94_0, hcz94_1, hcz94_2, hfz94_0, hfz94_1, hfz94_2⟩ := Z3f_ BK127.out) | ((with_reducible refine gC_ (f := 22) rfl ?_); refine GL_ (some 42) rfl rfl Try.func22 #[.agg #[.int .i64 t122, .int .i64 t123, .slice Ao82 t124.length co82], .agg #[.int .i64 t128, .int .i64 t129, .slice Ao93 t130.length co93]] rfl (h := ?_); (with_reducible refine (z22.calls k t122 t123 _ _ t124 t128 t129 _ _ t130 t134 t135 t136 t139 _ ?side1 ?side2 ?side3 ?side4 A24.out).mono ?_); (case side1 => refine (Kd.S_reads' (e := 25) (base := w.heap.size) (ok := fun k_ => ((((((True ∧ some k_ ≠ (v108 : Value).ownBlock) ∧ some k_ ≠ (v113 : Value).ownBlock) ∧ some k_ ≠ (.slice Ao71 t117.length co71 : Value).ownBlock) ∧ nan76 ≤ k_) ∧ some k_ ≠ (.slice Ao93 t130.length co93 : Value).ownBlock) ∧ k_ < nan86)) (n := t124.length) (c := co82) ?_).2.2; exact (by refine SW_ ?_; exact (Kd.S_mono (Kd.S_far (p := ⟨gb133, 2, none⟩) (Kd.S_far (p := ⟨gb133, 1, none⟩) (Kd.S_far (p := ⟨gb133, 0, none⟩) (Kd.S_types HO126.out BK133.out (by decide)) (fun _ hk => hk.2) (.int .i64 t128)) (fun _ hk => hk.2) (.int .i64 t129)) (fun _ hk => hk.2) (.slice Ao93 t130.length co93)) (fun _ h_ => h_.1)))); (case side2 => exact (Kd.S_reads' HO126.out).2.1); (case side3 => refine (Kd.S_reads' (e := 25) (base := w.heap.size) (ok := fun k_ => (((((True ∧ some k_ ≠ (v108 : Value).ownBlock) ∧ some k_ ≠ (v113 : Value).ownBlock) ∧ some k_ ≠ (.slice Ao71 t117.length co71 : Value).ownBlock) ∧ some k_ ≠ (.slice Ao82 t124.length co82 : Value).ownBlock) ∧ nan86 ≤ k_)) (n := t130.length) (c := co93) ?_).2.2; exact (by refine SW_ ?_; exact (Kd.S_mono (Kd.S_far (p := ⟨gb133, 2, none⟩) (Kd.S_far (p := ⟨gb133, 1, none⟩) (Kd.S_far (p := ⟨gb133, 0, none⟩) (Kd.S_types HO132.out BK133.out (by decide)) (fun _ hk => hk.2) (.int .i64 t128)) (fun _ hk => hk.2) (.int .i64 t129)) (fun _ hk => hk.2) (.slice Ao93 t130.length co93)) (fun _ h_ => h_.1)))); (case side4 => exact (Kd.S_reads' HO132.out).2.1); rintro e w95 ⟨v137, rfl, ho0, hb⟩; refine ⟨_, rfl, ?_⟩; obtain ⟨nan96, hnan96⟩ := Kd.size_letter hb; have HO138 := Zz.mk (Kd.S_lower (Kd.S_geN (Kd.S_new' (Kd.S_new' (Kd.S_new' (Kd.S_new' (Kd.S_new' ho0 (Kd.S_lt (by refine SW_ ?_; exact (Kd.S_mono (Kd.S_far (p := ⟨gb133, 2, none⟩) (Kd.S_far (p := ⟨gb133, 1, none⟩) (Kd.S_far (p := ⟨gb133, 0, none⟩) (Kd.S_types HO109.out BK133.out (by decide)) (fun _ hk => hk.2) (.int .i64 t128)) (fun _ hk => hk.2) (.int .i64 t129)) (fun _ hk => hk.2) (.slice Ao93 t130.length co93)) (fun _ h_ => h_.1))))) (Kd.S_lt (by refine SW_ ?_; exact (Kd.S_mono (Kd.S_far (p := ⟨gb133, 2, none⟩) (Kd.S_far (p := ⟨gb133, 1, none⟩) (Kd.S_far (p := ⟨gb133, 0, none⟩) (Kd.S_types HO114.out BK133.out (by decide)) (fun _ hk => hk.2) (.int .i64 t128)) (fun _ hk => hk.2) (.int .i64 t129)) (fun _ hk => hk.2) (.slice Ao93 t130.length co93)) (fun _ h_ => h_.1))))) (Kd.S_lt (by refine SW_ ?_; exact (Kd.S_mono (Kd.S_far (p := ⟨gb133, 2, none⟩) (Kd.S_far (p := ⟨gb133, 1, none⟩) (Kd.S_far (p := ⟨gb133, 0, none⟩) (Kd.S_types HO119.out BK133.out (by decide)) (fun _ hk => hk.2) (.int .i64 t128)) (fun _ hk => hk.2) (.int .i64 t129)) (fun _ hk => hk.2) (.slice Ao93 t130.length co93)) (fun _ h_ => h_.1))))) (Kd.S_lt (by refine SW_ ?_; exact (Kd.S_mono (Kd.S_far (p := ⟨gb133, 2, none⟩) (Kd.S_far (p := ⟨gb133, 1, none⟩) (Kd.S_far (p := ⟨gb133, 0, none⟩) (Kd.S_types HO126.out BK133.out (by decide)) (fun _ hk => hk.2) (.int .i64 t128)) (fun _ hk => hk.2) (.int .i64 t129)) (fun _ hk => hk.2) (.slice Ao93 t130.length co93)) (fun _ h_ => h_.1))))) (Kd.S_lt (by refine SW_ ?_; exact (Kd.S_mono (Kd.S_far (p := ⟨gb133, 2, none⟩) (Kd.S_far (p := ⟨gb133, 1, none⟩) (Kd.S_far (p := ⟨gb133, 0, none⟩) (Kd.S_types HO132.out BK133.out (by decide)) (fun _ hk => hk.2) (.int .i64 t128)) (fun _ hk => hk.2) (.int .i64 t129)) (fun _ hk => hk.2) (.slice Ao93 t130.length co93)) (fun _ h_ => h_.1))))) hnan96) (bS_ (Bw5_ HB.out GE101.out GE102.out GE121.out GE127.out GE133.out))); replace HO109 := Zz.mk (Kd.S_told (Kd.S_oldN (by refine SW_ ?_; exact (Kd.S_mono (Kd.S_far (p := ⟨gb133, 2, none⟩) (Kd.S_far (p := ⟨gb133, 1, none⟩) (Kd.S_far (p := ⟨gb133, 0, none⟩) (Kd.S_types HO109.out BK133.out (by decide)) (fun _ hk => hk.2) (.int .i64 t128)) (fun _ hk => hk.2) (.int .i64 t129)) (fun _ hk => hk.2) (.slice Ao93 t130.length co93)) (fun _ h_ => h_.1))) hb hnan96) (Kd.S_baseN ho0 hnan96)); replace HO114 := Zz.mk (Kd.S_told (Kd.S_oldN (by refine SW_ ?_; exact (Kd.S_mono (Kd.S_far (p := ⟨gb133, 2, none⟩) (Kd.S_far (p := ⟨gb133, 1, none⟩) (Kd.S_far (p := ⟨gb133, 0, none⟩) (Kd.S_types HO114.out BK133.out (by decide)) (fun _ hk => hk.2) (.int .i64 t128)) (fun _ hk => hk.2) (.int .i64 t129)) (fun _ hk => hk.2) (.slice Ao93 t130.length co93)) (fun _ h_ => h_.1))) hb hnan96) (Kd.S_baseN ho0 hnan96)); replace HO119 := Zz.mk (Kd.S_told (Kd.S_oldN (by refine SW_ ?_; exact (Kd.S_mono (Kd.S_far (p := ⟨gb133, 2, none⟩) (Kd.S_far (p := ⟨gb133, 1, none⟩) (Kd.S_far (p := ⟨gb133, 0, none⟩) (Kd.S_types HO119.out BK133.out (by decide)) (fun _ hk => hk.2) (.int .i64 t128)) (fun _ hk => hk.2) (.int .i64 t129)) (fun _ hk => hk.2) (.slice Ao93 t130.length co93)) (fun _ h_ => h_.1))) hb hnan96) (Kd.S_baseN ho0 hnan96)); replace HO126 := Zz.mk (Kd.S_told (Kd.S_oldN (by refine SW_ ?_; exact (Kd.S_mono (Kd.S_far (p := ⟨gb133, 2, none⟩) (Kd.S_far (p := ⟨gb133, 1, none⟩) (Kd.S_far (p := ⟨gb133, 0, none⟩) (Kd.S_types HO126.out BK133.out (by decide)) (fun _ hk => hk.2) (.int .i64 t128)) (fun _ hk => hk.2) (.int .i64 t129)) (fun _ hk => hk.2) (.slice Ao93 t130.length co93)) (fun _ h_ => h_.1))) hb hnan96) (Kd.S_baseN ho0 hnan96)); replace HO132 := Zz.mk (Kd.S_told (Kd.S_oldN (by refine SW_ ?_; exact (Kd.S_mono (Kd.S_far (p := ⟨gb133, 2, none⟩) (Kd.S_far (p := ⟨gb133, 1, none⟩) (Kd.S_far (p := ⟨gb133, 0, none⟩) (Kd.S_types HO132.out BK133.out (by decide)) (fun _ hk => hk.2) (.int .i64 t128)) (fun _ hk => hk.2) (.int .i64 t129)) (fun _ hk => hk.2) (.slice Ao93 t130.length co93)) (fun _ h_ => h_.1))) hb hnan96) (Kd.S_baseN ho0 hnan96)); replace BK101 := Zz.mk (bB_ (g := gb101) (o := .cells #[.int .i64 a0_0, .int .i64 a0_1, .slice A0_2 l0_2.length c0_2] 24 (0, 0)) (by refine BW_ ?_; refine bR_ ?_ NB101_133.out _; refine BW_ ?_; refine bR_ ?_ NB101_133.out _; refine BW_ ?_; refine bR_ ?_ NB101_133.out _; refine BW_ ?_; exact BK101.out) hb); replace BK102 := Zz.mk (bB_ (g := gb102) (o := .cells #[.int .i64 a1_0, .int .i64 a1_1, .slice A1_2 l1_2.length c1_2] 24 (0, 0)) (by refine BW_ ?_; refine bR_ ?_ NB102_133.out _; refine BW_ ?_; refine bR_ ?_ NB102_133.out _; refine BW_ ?_; refine bR_ ?_ NB102_133.out _; refine BW_ ?_; exact BK102.out) hb); replace BK121 := Zz.mk (bB_ (g := gb121) (o := .cells #[.int .i64 t115, .int .i64 t116, .slice Ao71 t117.length co71] 29 (0, 0)) (by refine BW_ ?_; refine bR_ ?_ NB121_133.out _; refine BW_ ?_; refine bR_ ?_ NB121_133.out _; refine BW_ ?_; refine bR_ ?_ NB121_133.out _; refine BW_ ?_; exact BK121.out) hb); replace BK127 := Zz.mk (bB_ (g := gb127) (o := .cells #[.int .i64 t122, .int .i64 t123, .slice Ao82 t124.length co82] 29 (0, 0)) (by refine BW_ ?_; refine bR_ ?_ NB127_133.out _; refine BW_ ?_; refine bR_ ?_ NB127_133.out _; refine BW_ ?_; refine bR_ ?_ NB127_133.out _; refine BW_ ?_; exact BK127.out) hb); replace BK133 := Zz.mk (bB_ (g := gb133) (o := .cells #[.int .i64 t128, .int .i64 t129, .slice Ao93 t130.length co93] 29 (0, 0)) (by refine BW_ ?_; refine bP_ (cs := #[.int .i64 t128, .int .i64 t129, .slice none 0 0]) ?_ 2 _ rfl; refine BW_ ?_; refine bP_ (cs := #[.int .i64 t128, .int .i64 0, .slice none 0 0]) ?_ 1 _ rfl; refine BW_ ?_; refine bP_ (cs := #[.int .i64 0, .int .i64 0, .slice none 0 0]) ?_ 0 _ rfl; refine BW_ ?_; exact BK133.out) hb); replace HB := Zz.mk (bT_ (Bw5_ HB.out GE101.out GE102.out GE121.out GE127.out GE133.out) hb); (try clear hb); (try clear hb2); (try clear hk); (try clear hi); (try clear ho0)) | ((with_reducible refine gate_dst (N := 10) rfl ?_); refine box_event ?hg (N := 10) ?hd (cs := #[.int .i64 0, .int .i64 0, .slice none 0 0]) (t := 29) ?hr ?_; (case hd => rfl); (case hg => rfl); (case hr => first | (go_simp; done) | (go_simp; rfl)); intro gb140 hg w97 hbox hb; have BK140 := Zz.mk (hbox); have GW140 := Zz.mk ((by rw [hg]; exact (bS_ (Bw5_ HB.out GE101.out GE102.out GE121.out GE127.out GE133.out)) : w.heap.size ≤ gb140)); have GE140 := GW140; have NB101_140 := Zz.mk ((by rw [hg]; exact Nat.ne_of_lt (blk_lt (g := gb101) (o := .cells #[.int .i64 a0_0, .int .i64 a0_1, .slice A0_2 l0_2.length c0_2] 24 (0, 0)) (KB_ BK101.out)) : gb101 ≠ gb140)); have NB140_101 := Zz.mk NB101_140.out.symm; have NB102_140 := Zz.mk ((by rw [hg]; exact Nat.ne_of_lt (blk_lt (g := gb102) (o := .cells #[.int .i64 a1_0, .int .i64 a1_1, .slice A1_2 l1_2.length c1_2] 24 (0, 0)) (KB_ BK102.out)) : gb102 ≠ gb140)); have NB140_102 := Zz.mk NB102_140.out.symm; have NB121_140 := Zz.mk ((by rw [hg]; exact Nat.ne_of_lt (blk_lt (g := gb121) (o := .cells #[.int .i64 t115, .int .i64 t116, .slice Ao71 t117.length co71] 29 (0, 0)) (KB_ BK121.out)) : gb121 ≠ gb140)); have NB140_121 := Zz.mk NB121_140.out.symm; have NB127_140 := Zz.mk ((by rw [hg]; exact Nat.ne_of_lt (blk_lt (g := gb127) (o := .cells #[.int .i64 t122, .int .i64 t123, .slice Ao82 t124.length co82] 29 (0, 0)) (KB_ BK127.out)) : gb127 ≠ gb140)); have NB140_127 := Zz.mk NB127_140.out.symm; have NB133_140 := Zz.mk ((by rw [hg]; exact Nat.ne_of_lt (blk_lt (g := gb133) (o := .cells #[.int .i64 t128, .int .i64 t129, .slice Ao93 t130.length co93] 29 (0, 0)) (KB_ BK133.out)) : gb133 ≠ gb140)); have NB140_133 := Zz.mk NB133_140.out.symm; replace HO109 := Zz.mk (Kd.S_below (KS_ HO109.out) hb); replace HO114 := Zz.mk (Kd.S_below (KS_ HO114.out) hb); replace HO119 := Zz.mk (Kd.S_below (KS_ HO119.out) hb); replace HO126 := Zz.mk (Kd.S_below (KS_ HO126.out) hb); replace HO132 := Zz.mk (Kd.S_below (KS_ HO132.out) hb); replace HO138 := Zz.mk (Kd.S_below (KS_ HO138.out) hb); replace BK101 := Zz.mk (bB_ (g := gb101) (o := .cells #[.int .i64 a0_0, .int .i64 a0_1, .slice A0_2 l0_2.length c0_2] 24 (0, 0)) (KB_ BK101.out) hb); replace BK102 := Zz.mk (bB_ (g := gb102) (o := .cells #[.int .i64 a1_0, .int .i64 a1_1, .slice A1_2 l1_2.length c1_2] 24 (0, 0)) (KB_ BK102.out) hb); replace BK121 := Zz.mk (bB_ (g := gb121) (o := .cells #[.int .i64 t115, .int .i64 t116, .slice Ao71 t117.length co71] 29 (0, 0)) (KB_ BK121.out) hb); replace BK127 := Zz.mk (bB_ (g := gb127) (o := .cells #[.int .i64 t122, .int .i64 t123, .slice Ao82 t124.length co82] 29 (0, 0)) (KB_ BK127.out) hb); replace BK133 := Zz.mk (bB_ (g := gb133) (o := .cells #[.int .i64 t128, .int .i64 t129, .slice Ao93 t130.length co93] 29 (0, 0)) (KB_ BK133.out) hb); replace HB := Zz.mk (bT_ (Bw5_ HB.out GE101.out GE102.out GE121.out GE127.out GE133.out) hb); clear hb hbox hg; have hnb98 := NB140_101.out; have hnc98 := NB101_140.out; have hnb99 := NB140_102.out; have hnc99 := NB102_140.out; have hnb100 := NB140_121.out; have hnc100 := NB121_140.out; have hnb101 := NB140_127.out; have hnc101 := NB127_140.out; have hnb102 := NB140_133.out; have hnc102 := NB133_140.out; obtain ⟨hcz103_0, hcz103_1, hcz103_2, hfz103_0, hfz103_1, hfz103_2⟩ := Z3f_ BK140.out; obtain ⟨Ao104, co104, eo104⟩ := Kd.S_slice HO138.out; subst eo104; obtain ⟨hcz105_0, hcz105_1, hcz105_2, hfz105_0, hfz105_1, hfz105_2⟩ := Z3f_ BK121.out) | ((with_reducible refine gC_ (f := 17) rfl ?_); refine GL_ (some 47) rfl rfl Try.func17 #[.agg #[.int .i64 t134, .int .i64 t135, .slice Ao104 t136.length co104], .agg #[.int .i64 t115, .int .i64 t116, .slice Ao71 t117.length co71]] rfl (h := ?_); (with_reducible refine (z17.calls k t134 t135 _ _ t136 t115 t116 _ _ t117 true _ ?side1 ?side2 ?side3 ?side4 A25.out).mono ?_); (case side1 => refine (Kd.S_reads' (e := 25) (base := w.heap.size) (ok := fun k_ => ((((((True ∧ some k_ ≠ (v108 : Value).ownBlock) ∧ some k_ ≠ (v113 : Value).ownBlock) ∧ some k_ ≠ (.slice Ao71 t117.length co71 : Value).ownBlock) ∧ some k_ ≠ (.slice Ao82 t124.length co82 : Value).ownBlock) ∧ some k_ ≠ (.slice Ao93 t130.length co93 : Value).ownBlock) ∧ nan96 ≤ k_)) (n := t136.length) (c := co104) ?_).2.2; exact (by refine SW_ ?_; exact (Kd.S_mono (Kd.S_far (p := ⟨gb140, 2, none⟩) (Kd.S_far (p := ⟨gb140, 1, none⟩) (Kd.S_far (p := ⟨gb140, 0, none⟩) (Kd.S_types HO138.out BK140.out (by decide)) (fun _ hk => hk.2) (.int .i64 t134)) (fun _ hk => hk.2) (.int .i64 t135)) (fun _ hk => hk.2) (.slice Ao104 t136.length co104)) (fun _ h_ => h_.1)))); (case side2 => exact (Kd.S_reads' HO138.out).2.1); (case side3 => refine (Kd.S_reads' (e := 25) (base := w.heap.size) (ok := fun k_ => (((((((some k_ ≠ (v108 : Value).ownBlock ∧ some k_ ≠ (v113 : Value).ownBlock) ∧ some k_ ≠ (.slice Ao82 t124.length co82 : Value).ownBlock) ∧ k_ < nan76) ∧ some k_ ≠ (.slice Ao93 t130.length co93 : Value).ownBlock) ∧ k_ < nan86) ∧ some k_ ≠ (.slice Ao104 t136.length co104 : Value).ownBlock) ∧ k_ < nan96)) (n := t117.length) (c := co71) ?_).2.2; exact (by refine SW_ ?_; exact (Kd.S_mono (Kd.S_far (p := ⟨gb140, 2, none⟩) (Kd.S_far (p := ⟨gb140, 1, none⟩) (Kd.S_far (p := ⟨gb140, 0, none⟩) (Kd.S_types HO119.out BK140.out (by decide)) (fun _ hk => hk.2) (.int .i64 t134)) (fun _ hk => hk.2) (.int .i64 t135)) (fun _ hk => hk.2) (.slice Ao104 t136.length co104)) (fun _ h_ => h_.1)))); (case side4 => exact (Kd.S_reads' HO119.out).2.1); rintro e w106 ⟨rfl, hb⟩; refine ⟨_, rfl, ?_⟩; replace HO109 := Zz.mk (Kd.S_below (by refine SW_ ?_; exact (Kd.S_mono (Kd.S_far (p := ⟨gb140, 2, none⟩) (Kd.S_far (p := ⟨gb140, 1, none⟩) (Kd.S_far (p := ⟨gb140, 0, none⟩) (Kd.S_types HO109.out BK140.out (by decide)) (fun _ hk => hk.2) (.int .i64 t134)) (fun _ hk => hk.2) (.int .i64 t135)) (fun _ hk => hk.2) (.slice Ao104 t136.length co104)) (fun _ h_ => h_.1))) hb); replace HO114 := Zz.mk (Kd.S_below (by refine SW_ ?_; exact (Kd.S_mono (Kd.S_far (p := ⟨gb140, 2, none⟩) (Kd.S_far (p := ⟨gb140, 1, none⟩) (Kd.S_far (p := ⟨gb140, 0, none⟩) (Kd.S_types HO114.out BK140.out (by decide)) (fun _ hk => hk.2) (.int .i64 t134)) (fun _ hk => hk.2) (.int .i64 t135)) (fun _ hk => hk.2) (.slice Ao104 t136.length co104)) (fun _ h_ => h_.1))) hb); replace HO119 := Zz.mk (Kd.S_below (by refine SW_ ?_; exact (Kd.S_mono (Kd.S_far (p := ⟨gb140, 2, none⟩) (Kd.S_far (p := ⟨gb140, 1, none⟩) (Kd.S_far (p := ⟨gb140, 0, none⟩) (Kd.S_types HO119.out BK140.out (by decide)) (fun _ hk => hk.2) (.int .i64 t134)) (fun _ hk => hk.2) (.int .i64 t135)) (fun _ hk => hk.2) (.slice Ao104 t136.length co104)) (fun _ h_ => h_.1))) hb); replace HO126 := Zz.mk (Kd.S_below (by refine SW_ ?_; exact (Kd.S_mono (Kd.S_far (p := ⟨gb140, 2, none⟩) (Kd.S_far (p := ⟨gb140, 1, none⟩) (Kd.S_far (p := ⟨gb140, 0, none⟩) (Kd.S_types HO126.out BK140.out (by decide)) (fun _ hk => hk.2) (.int .i64 t134)) (fun _ hk => hk.2) (.int .i64 t135)) (fun _ hk => hk.2) (.slice Ao104 t136.length co104)) (fun _ h_ => h_.1))) hb); replace HO132 := Zz.mk (Kd.S_below (by refine SW_ ?_; exact (Kd.S_mono (Kd.S_far (p := ⟨gb140, 2, none⟩) (Kd.S_far (p := ⟨gb140, 1, none⟩) (Kd.S_far (p := ⟨gb140, 0, none⟩) (Kd.S_types HO132.out BK140.out (by decide)) (fun _ hk => hk.2) (.int .i64 t134)) (fun _ hk => hk.2) (.int .i64 t135)) (fun _ hk => hk.2) (.slice Ao104 t136.length co104)) (fun _ h_ => h_.1))) hb); replace HO138 := Zz.mk (Kd.S_below (by refine SW_ ?_; exact (Kd.S_mono (Kd.S_far (p := ⟨gb140, 2, none⟩) (Kd.S_far (p := ⟨gb140, 1, none⟩) (Kd.S_far (p := ⟨gb140, 0, none⟩) (Kd.S_types HO138.out BK140.out (by decide)) (fun _ hk => hk.2) (.int .i64 t134)) (fun _ hk => hk.2) (.int .i64 t135)) (fun _ hk => hk.2) (.slice Ao104 t136.length co104)) (fun _ h_ => h_.1))) hb); replace BK101 := Zz.mk (bB_ (g := gb101) (o := .cells #[.int .i64 a0_0, .int .i64 a0_1, .slice A0_2 l0_2.length c0_2] 24 (0, 0)) (by refine BW_ ?_; refine bR_ ?_ NB101_140.out _; refine BW_ ?_; refine bR_ ?_ NB101_140.out _; refine BW_ ?_; refine bR_ ?_ NB101_140.out _; refine BW_ ?_; exact BK101.out) hb); replace BK102 := Zz.mk (bB_ (g := gb102) (o := .cells #[.int .i64 a1_0, .int .i64 a1_1, .slice A1_2 l1_2.length c1_2] 24 (0, 0)) (by refine BW_ ?_; refine bR_ ?_ NB102_140.out _; refine BW_ ?_; refine bR_ ?_ NB102_140.out _; refine BW_ ?_; refine bR_ ?_ NB102_140.out _; refine BW_ ?_; exact BK102.out) hb); replace BK121 := Zz.mk (bB_ (g := gb121) (o := .cells #[.int .i64 t115, .int .i64 t116, .slice Ao71 t117.length co71] 29 (0, 0)) (by refine BW_ ?_; refine bR_ ?_ NB121_140.out _; refine BW_ ?_; refine bR_ ?_ NB121_140.out _; refine BW_ ?_; refine bR_ ?_ NB121_140.out _; refine BW_ ?_; exact BK121.out) hb); replace BK127 := Zz.mk (bB_ (g := gb127) (o := .cells #[.int .i64 t122, .int .i64 t123, .slice Ao82 t124.length co82] 29 (0, 0)) (by refine BW_ ?_; refine bR_ ?_ NB127_140.out _; refine BW_ ?_; refine bR_ ?_ NB127_140.out _; refine BW_ ?_; refine bR_ ?_ NB127_140.out _; refine BW_ ?_; exact BK127.out) hb); replace BK133 := Zz.mk (bB_ (g := gb133) (o := .cells #[.int .i64 t128, .int .i64 t129, .slice Ao93 t130.length co93] 29 (0, 0)) (by refine BW_ ?_; refine bR_ ?_ NB133_140.out _; refine BW_ ?_; refine bR_ ?_ NB133_140.out _; refine BW_ ?_; refine bR_ ?_ NB133_140.out _; refine BW_ ?_; exact BK133.out) hb); replace BK140 := Zz.mk (bB_ (g := gb140) (o := .cells #[.int .i64 t134, .int .i64 t135, .slice Ao104 t136.length co104] 29 (0, 0)) (by refine BW_ ?_; refine bP_ (cs := #[.int .i64 t134, .int .i64 t135, .slice none 0 0]) ?_ 2 _ rfl; refine BW_ ?_; refine bP_ (cs := #[.int .i64 t134, .int .i64 0, .slice none 0 0]) ?_ 1 _ rfl; refine BW_ ?_; refine bP_ (cs := #[.int .i64 0, .int .i64 0, .slice none 0 0]) ?_ 0 _ rfl; refine BW_ ?_; exact BK140.out) hb); replace HB := Zz.mk (bT_ (Bw6_ HB.out GE101.out GE102.out GE121.out GE127.out GE133.out GE140.out) hb); (try clear hb); (try clear hb2); (try clear hk); (try clear hi)))
          replace HO109 := Zz.mk (Kd.S_drew HO109.out)
          replace HO114 := Zz.mk (Kd.S_drew HO114.out)
          replace HO119 := Zz.mk (Kd.S_drew HO119.out)
          replace HO126 := Zz.mk (Kd.S_drew HO126.out)
          replace HO132 := Zz.mk (Kd.S_drew HO132.out)
          replace HO138 := Zz.mk (Kd.S_drew HO138.out)
          replace BK101 := Zz.mk (bD_ BK101.out)
          replace BK102 := Zz.mk (bD_ BK102.out)
          replace BK121 := Zz.mk (bD_ BK121.out)
          replace BK127 := Zz.mk (bD_ BK127.out)
          replace BK133 := Zz.mk (bD_ BK133.out)
          replace BK140 := Zz.mk (bD_ BK140.out)
          replace HB := Zz.mk (below_drew1 HB.out)
          refine start_ (n := 5) (S := fun w' => w'.cell? ⟨gb127, 0, none⟩ = some (.int .i64 t122) ∧ w'.cell? ⟨gb127, 1, none⟩ = some (.int .i64 t123) ∧ w'.cell? ⟨gb127, 2, none⟩ = some (.slice Ao82 t124.length co82) ∧ w'.cell? ⟨gb101, 0, none⟩ = some (.int .i64 a0_0) ∧ w'.cell? ⟨gb101, 1, none⟩ = some (.int .i64 a0_1) ∧ w'.cell? ⟨gb101, 2, none⟩ = some (.slice A0_2 l0_2.length c0_2)) (ds := []) #[false, false, false, false, false] (by kernel_rfl) rfl rfl ⟨(bC_ BK127.out 0).trans rfl, (bC_ BK127.out 1).trans rfl, (bC_ BK127.out 2).trans rfl, (bC_ BK101.out 0).trans rfl, (bC_ BK101.out 1).trans rfl, (bC_ BK101.out 2).trans rfl⟩ (fun hHeld => ?_)
          generalize w106.drew = w107 at HO109 HO114 HO119 HO126 HO132 HO138 BK101 BK102 BK121 BK127 BK133 BK140 HB hHeld ⊢
          refine take_ (i := 0) (N := some 54) (v := ?_) (a' := ?_) #[true, false, false, false, false] rfl rfl (by kernel_rfl) (fun _ _ _ h => h) (Or.inl ⟨by rfl, ?_⟩) hHeld ?_ ?_
          rotate_left
          ·rintro w' ⟨s0, s1, s2, s3, s4, s5⟩
           go_simp
           with_reducible rfl
          rotate_left
          ·simp only [Act.put, List.setIfInBounds_toArray, List.set_cons_zero, List.set_cons_succ, i64_w, i32_w]
           rfl
          refine take_ (i := 1) (N := some 55) (v := ?_) (a' := ?_) #[true, true, false, false, false] rfl rfl (by kernel_rfl) (fun _ _ _ h => h) (Or.inl ⟨by rfl, ?_⟩) hHeld ?_ ?_
          rotate_left
          ·rintro w' ⟨s0, s1, s2, s3, s4, s5⟩
           go_simp
           with_reducible rfl
          rotate_left
          ·simp only [Act.put, List.setIfInBounds_toArray, List.set_cons_zero, List.set_cons_succ, i64_w, i32_w]
           rfl
          refine one_ (i := 2) (N := some 56) #[true, true, true, false, false] rfl rfl (by kernel_rfl) (by decide) (fun K hK => ?_)
          refine GO_ Try.func13 #[.agg #[.int .i64 a0_0, .int .i64 a0_1, .slice A0_2 l0_2.length c0_2]] (h := ?_)
          with_reducible refine (z13.calls k a0_0 a0_1 _ _ l0_2 t142 t143 t144 _ ?side1 ?side2 A28.out).mono ?_
          (case side1 => exact KC_ (Kd.C_below HR0_2.out HB.out))
          (case side2 => exact HC0_2.out)
          rintro e w108 ⟨v145, rfl, ho0, hb⟩
          refine ⟨_, rfl, ?_⟩
          obtain ⟨nan109, hnan109⟩ := Kd.size_letter hb
          have HO146 := Zz.mk (Kd.S_lower (Kd.S_geN (Kd.S_new' (Kd.S_new' (Kd.S_new' (Kd.S_new' (Kd.S_new' (Kd.S_new' ho0 (Kd.S_lt (KS_ HO109.out))) (Kd.S_lt (KS_ HO114.out))) (Kd.S_lt (KS_ HO119.out))) (Kd.S_lt (KS_ HO126.out))) (Kd.S_lt (KS_ HO132.out))) (Kd.S_lt (KS_ HO138.out))) hnan109) (bS_ (Bw6_ HB.out GE101.out GE102.out GE121.out GE127.out GE133.out GE140.out)))
          replace HO109 := Zz.mk (Kd.S_told (Kd.S_oldN (KS_ HO109.out) hb hnan109) (Kd.S_baseN ho0 hnan109))
          replace HO114 := Zz.mk (Kd.S_told (Kd.S_oldN (KS_ HO114.out) hb hnan109) (Kd.S_baseN ho0 hnan109))
          replace HO119 := Zz.mk (Kd.S_told (Kd.S_oldN (KS_ HO119.out) hb hnan109) (Kd.S_baseN ho0 hnan109))
          replace HO126 := Zz.mk (Kd.S_told (Kd.S_oldN (KS_ HO126.out) hb hnan109) (Kd.S_baseN ho0 hnan109))
          replace HO132 := Zz.mk (Kd.S_told (Kd.S_oldN (KS_ HO132.out) hb hnan109) (Kd.S_baseN ho0 hnan109))
          replace HO138 := Zz.mk (Kd.S_told (Kd.S_oldN (KS_ HO138.out) hb hnan109) (Kd.S_baseN ho0 hnan109))
          replace BK101 := Zz.mk (bB_ (g := gb101) (o := .cells #[.int .i64 a0_0, .int .i64 a0_1, .slice A0_2 l0_2.length c0_2] 24 (0, 0)) (KB_ BK101.out) hb)
          replace BK102 := Zz.mk (bB_ (g := gb102) (o := .cells #[.int .i64 a1_0, .int .i64 a1_1, .slice A1_2 l1_2.length c1_2] 24 (0, 0)) (KB_ BK102.out) hb)
          replace BK121 := Zz.mk (bB_ (g := gb121) (o := .cells #[.int .i64 t115, .int .i64 t116, .slice Ao71 t117.length co71] 29 (0, 0)) (KB_ BK121.out) hb)
          replace BK127 := Zz.mk (bB_ (g := gb127) (o := .cells #[.int .i64 t122, .int .i64 t123, .slice Ao82 t124.length co82] 29 (0, 0)) (KB_ BK127.out) hb)
          replace BK133 := Zz.mk (bB_ (g := gb133) (o := .cells #[.int .i64 t128, .int .i64 t129, .slice Ao93 t130.length co93] 29 (0, 0)) (KB_ BK133.out) hb)
          replace BK140 := Zz.mk (bB_ (g := gb140) (o := .cells #[.int .i64 t134, .int .i64 t135, .slice Ao104 t136.length co104] 29 (0, 0)) (KB_ BK140.out) hb)
          replace HB := Zz.mk (bT_ (Bw6_ HB.out GE101.out GE102.out GE121.out GE127.out GE133.out GE140.out) hb)
          (try clear hb);(try clear hb2);(try clear hk);(try clear hi);(try clear ho0)
          obtain ⟨Ao110, co110, eo110⟩ := Kd.S_slice HO146.out
          (first | subst eo110 | (injection eo110 with f1_ f2_ f3_; have f4_ := f1_.symm; have f5_ := f3_.symm; clear f1_ f2_ f3_; subst f4_; subst f5_))
          refine hK.out _ _ ⟨(bC_ BK127.out 0).trans rfl, (bC_ BK127.out 1).trans rfl, (bC_ BK127.out 2).trans rfl, (bC_ BK101.out 0).trans rfl, (bC_ BK101.out 1).trans rfl, (bC_ BK101.out 2).trans rfl⟩ (fun hHeld => ?_)
          clear hK K
          refine NM_ (N := (some 56)) (h := ?_)
          refine one_ (i := 3) (N := some 57) #[true, true, true, true, false] rfl rfl (by kernel_rfl) (by decide) (fun K hK => ?_)
          refine GO_ Try.func17 #[.agg #[.int .i64 t122, .int .i64 t123, .slice Ao82 t124.length co82], .agg #[.int .i64 t142, .int .i64 t143, .slice Ao110 t144.length co110]] (h := ?_)
          with_reducible refine (z17.calls k t122 t123 _ _ t124 t142 t143 _ _ t144 true _ ?side1 ?side2 ?side3 ?side4 A29.out).mono ?_
          (case side1 => exact KC_ (Kd.S_reads' HO126.out).2.2)
          (case side2 => exact (Kd.S_reads' HO126.out).2.1)
          (case side3 => exact KC_ (Kd.S_reads' HO146.out).2.2)
          (case side4 => exact (Kd.S_reads' HO146.out).2.1)
          rintro e w111 ⟨rfl, hb⟩
          refine ⟨_, rfl, ?_⟩
          replace HO109 := Zz.mk (Kd.S_below (KS_ HO109.out) hb)
          replace HO114 := Zz.mk (Kd.S_below (KS_ HO114.out) hb)
          replace HO119 := Zz.mk (Kd.S_below (KS_ HO119.out) hb)
          replace HO126 := Zz.mk (Kd.S_below (KS_ HO126.out) hb)
          replace HO132 := Zz.mk (Kd.S_below (KS_ HO132.out) hb)
          replace HO138 := Zz.mk (Kd.S_below (KS_ HO138.out) hb)
          replace HO146 := Zz.mk (Kd.S_below (KS_ HO146.out) hb)
          replace BK101 := Zz.mk (bB_ (g := gb101) (o := .cells #[.int .i64 a0_0, .int .i64 a0_1, .slice A0_2 l0_2.length c0_2] 24 (0, 0)) (KB_ BK101.out) hb)
          replace BK102 := Zz.mk (bB_ (g := gb102) (o := .cells #[.int .i64 a1_0, .int .i64 a1_1, .slice A1_2 l1_2.length c1_2] 24 (0, 0)) (KB_ BK102.out) hb)
          replace BK121 := Zz.mk (bB_ (g := gb121) (o := .cells #[.int .i64 t115, .int .i64 t116, .slice Ao71 t117.length co71] 29 (0, 0)) (KB_ BK121.out) hb)
          replace BK127 := Zz.mk (bB_ (g := gb127) (o := .cells #[.int .i64 t122, .int .i64 t123, .slice Ao82 t124.length co82] 29 (0, 0)) (KB_ BK127.out) hb)
          replace BK133 := Zz.mk (bB_ (g := gb133) (o := .cells #[.int .i64 t128, .int .i64 t129, .slice Ao93 t130.length co93] 29 (0, 0)) (KB_ BK133.out) hb)
          replace BK140 := Zz.mk (bB_ (g := gb140) (o := .cells #[.int .i64 t134, .int .i64 t135, .slice Ao104 t136.length co104] 29 (0, 0)) (KB_ BK140.out) hb)
          replace HB := Zz.mk (bT_ (Bw6_ HB.out GE101.out GE102.out GE121.out GE127.out GE133.out GE140.out) hb)
          (try clear hb);(try clear hb2);(try clear hk);(try clear hi)
          refine hK.out _ _ ⟨(bC_ BK127.out 0).trans rfl, (bC_ BK127.out 1).trans rfl, (bC_ BK127.out 2).trans rfl, (bC_ BK101.out 0).trans rfl, (bC_ BK101.out 1).trans rfl, (bC_ BK101.out 2).trans rfl⟩ (fun hHeld => ?_)
          clear hK K
          refine NM_ (N := (some 57)) (h := ?_)
          refine pure_ (i := 4) (N := some 58) (v := ?_) (a' := ?_) #[true, true, true, true, true] rfl rfl (by kernel_rfl) (fun _ _ _ h => h) (Or.inl ⟨by rfl, ?_⟩) ?_ ?_
          rotate_left
          ·intro w'
           go_simp
           with_reducible rfl
          rotate_left
          ·simp only [Act.put, List.setIfInBounds_toArray, List.set_cons_zero, List.set_cons_succ, i64_w, i32_w]
           rfl
          refine done_ (by kernel_rfl) ?_
          try go_wp2
          replace HO109 := Zz.mk (Kd.S_drew HO109.out)
          replace HO114 := Zz.mk (Kd.S_drew HO114.out)
          replace HO119 := Zz.mk (Kd.S_drew HO119.out)
          replace HO126 := Zz.mk (Kd.S_drew HO126.out)
          replace HO132 := Zz.mk (Kd.S_drew HO132.out)
          replace HO138 := Zz.mk (Kd.S_drew HO138.out)
          replace HO146 := Zz.mk (Kd.S_drew HO146.out)
          replace BK101 := Zz.mk (bD_ BK101.out)
          replace BK102 := Zz.mk (bD_ BK102.out)
          replace BK121 := Zz.mk (bD_ BK121.out)
          replace BK127 := Zz.mk (bD_ BK127.out)
          replace BK133 := Zz.mk (bD_ BK133.out)
          replace BK140 := Zz.mk (bD_ BK140.out)
          replace HB := Zz.mk (below_drew1 HB.out)
          refine start_ (n := 5) (S := fun w' => w'.cell? ⟨gb133, 0, none⟩ = some (.int .i64 t128) ∧ w'.cell? ⟨gb133, 1, none⟩ = some (.int .i64 t129) ∧ w'.cell? ⟨gb133, 2, none⟩ = some (.slice Ao93 t130.length co93) ∧ w'.cell? ⟨gb102, 0, none⟩ = some (.int .i64 a1_0) ∧ w'.cell? ⟨gb102, 1, none⟩ = some (.int .i64 a1_1) ∧ w'.cell? ⟨gb102, 2, none⟩ = some (.slice A1_2 l1_2.length c1_2)) (ds := []) #[false, false, false, false, false] (by kernel_rfl) rfl rfl ⟨(bC_ BK133.out 0).trans rfl, (bC_ BK133.out 1).trans rfl, (bC_ BK133.out 2).trans rfl, (bC_ BK102.out 0).trans rfl, (bC_ BK102.out 1).trans rfl, (bC_ BK102.out 2).trans rfl⟩ (fun hHeld => ?_)
          generalize w111.drew = w112 at HO109 HO114 HO119 HO126 HO132 HO138 HO146 BK101 BK102 BK121 BK127 BK133 BK140 HB hHeld ⊢
          refine take_ (i := 0) (N := some 59) (v := ?_) (a' := ?_) #[true, false, false, false, false] rfl rfl (by kernel_rfl) (fun _ _ _ h => h) (Or.inl ⟨by rfl, ?_⟩) hHeld ?_ ?_
          rotate_left
          ·rintro w' ⟨s0, s1, s2, s3, s4, s5⟩
           go_simp
           with_reducible rfl
          rotate_left
          ·simp only [Act.put, List.setIfInBounds_toArray, List.set_cons_zero, List.set_cons_succ, i64_w, i32_w]
           rfl
          refine take_ (i := 1) (N := some 60) (v := ?_) (a' := ?_) #[true, true, false, false, false] rfl rfl (by kernel_rfl) (fun _ _ _ h => h) (Or.inl ⟨by rfl, ?_⟩) hHeld ?_ ?_
          rotate_left
          ·rintro w' ⟨s0, s1, s2, s3, s4, s5⟩
           go_simp
           with_reducible rfl
          rotate_left
          ·simp only [Act.put, List.setIfInBounds_toArray, List.set_cons_zero, List.set_cons_succ, i64_w, i32_w]
           rfl
          refine one_ (i := 2) (N := some 61) #[true, true, true, false, false] rfl rfl (by kernel_rfl) (by decide) (fun K hK => ?_)
          refine GO_ Try.func13 #[.agg #[.int .i64 a1_0, .int .i64 a1_1, .slice A1_2 l1_2.length c1_2]] (h := ?_)
          with_reducible refine (z13.calls k a1_0 a1_1 _ _ l1_2 t148 t149 t150 _ ?side1 ?side2 A31.out).mono ?_
          (case side1 => exact KC_ (Kd.C_below HR1_2.out HB.out))
          (case side2 => exact HC1_2.out)
          rintro e w113 ⟨v151, rfl, ho0, hb⟩
          refine ⟨_, rfl, ?_⟩
          obtain ⟨nan114, hnan114⟩ := Kd.size_letter hb
          have HO152 := Zz.mk (Kd.S_lower (Kd.S_geN (Kd.S_new' (Kd.S_new' (Kd.S_new' (Kd.S_new' (Kd.S_new' (Kd.S_new' (Kd.S_new' ho0 (Kd.S_lt (KS_ HO109.out))) (Kd.S_lt (KS_ HO114.out))) (Kd.S_lt (KS_ HO119.out))) (Kd.S_lt (KS_ HO126.out))) (Kd.S_lt (KS_ HO132.out))) (Kd.S_lt (KS_ HO138.out))) (Kd.S_lt (KS_ HO146.out))) hnan114) (bS_ (Bw6_ HB.out GE101.out GE102.out GE121.out GE127.out GE133.out GE140.out)))
          replace HO109 := Zz.mk (Kd.S_told (Kd.S_oldN (KS_ HO109.out) hb hnan114) (Kd.S_baseN ho0 hnan114))
          replace HO114 := Zz.mk (Kd.S_told (Kd.S_oldN (KS_ HO114.out) hb hnan114) (Kd.S_baseN ho0 hnan114))
          replace HO119 := Zz.mk (Kd.S_told (Kd.S_oldN (KS_ HO119.out) hb hnan114) (Kd.S_baseN ho0 hnan114))
          replace HO126 := Zz.mk (Kd.S_told (Kd.S_oldN (KS_ HO126.out) hb hnan114) (Kd.S_baseN ho0 hnan114))
          replace HO132 := Zz.mk (Kd.S_told (Kd.S_oldN (KS_ HO132.out) hb hnan114) (Kd.S_baseN ho0 hnan114))
          replace HO138 := Zz.mk (Kd.S_told (Kd.S_oldN (KS_ HO138.out) hb hnan114) (Kd.S_baseN ho0 hnan114))
          replace HO146 := Zz.mk (Kd.S_told (Kd.S_oldN (KS_ HO146.out) hb hnan114) (Kd.S_baseN ho0 hnan114))
          replace BK101 := Zz.mk (bB_ (g := gb101) (o := .cells #[.int .i64 a0_0, .int .i64 a0_1, .slice A0_2 l0_2.length c0_2] 24 (0, 0)) (KB_ BK101.out) hb)
          replace BK102 := Zz.mk (bB_ (g := gb102) (o := .cells #[.int .i64 a1_0, .int .i64 a1_1, .slice A1_2 l1_2.length c1_2] 24 (0, 0)) (KB_ BK102.out) hb)
          replace BK121 := Zz.mk (bB_ (g := gb121) (o := .cells #[.int .i64 t115, .int .i64 t116, .slice Ao71 t117.length co71] 29 (0, 0)) (KB_ BK121.out) hb)
          replace BK127 := Zz.mk (bB_ (g := gb127) (o := .cells #[.int .i64 t122, .int .i64 t123, .slice Ao82 t124.length co82] 29 (0, 0)) (KB_ BK127.out) hb)
          replace BK133 := Zz.mk (bB_ (g := gb133) (o := .cells #[.int .i64 t128, .int .i64 t129, .slice Ao93 t130.length co93] 29 (0, 0)) (KB_ BK133.out) hb)
          replace BK140 := Zz.mk (bB_ (g := gb140) (o := .cells #[.int .i64 t134, .int .i64 t135, .slice Ao104 t136.length co104] 29 (0, 0)) (KB_ BK140.out) hb)
          replace HB := Zz.mk (bT_ (Bw6_ HB.out GE101.out GE102.out GE121.out GE127.out GE133.out GE140.out) hb)
          (try clear hb);(try clear hb2);(try clear hk);(try clear hi);(try clear ho0)
          obtain ⟨Ao115, co115, eo115⟩ := Kd.S_slice HO152.out
          (first | subst eo115 | (injection eo115 with f1_ f2_ f3_; have f4_ := f1_.symm; have f5_ := f3_.symm; clear f1_ f2_ f3_; subst f4_; subst f5_))
          refine hK.out _ _ ⟨(bC_ BK133.out 0).trans rfl, (bC_ BK133.out 1).trans rfl, (bC_ BK133.out 2).trans rfl, (bC_ BK102.out 0).trans rfl, (bC_ BK102.out 1).trans rfl, (bC_ BK102.out 2).trans rfl⟩ (fun hHeld => ?_)
          clear hK K
          refine NM_ (N := (some 61)) (h := ?_)
          refine one_ (i := 3) (N := some 62) #[true, true, true, true, false] rfl rfl (by kernel_rfl) (by decide) (fun K hK => ?_)
          refine GO_ Try.func17 #[.agg #[.int .i64 t128, .int .i64 t129, .slice Ao93 t130.length co93], .agg #[.int .i64 t148, .int .i64 t149, .slice Ao115 t150.length co115]] (h := ?_)
          with_reducible refine (z17.calls k t128 t129 _ _ t130 t148 t149 _ _ t150 true _ ?side1 ?side2 ?side3 ?side4 A32.out).mono ?_
          (case side1 => exact KC_ (Kd.S_reads' HO132.out).2.2)
          (case side2 => exact (Kd.S_reads' HO132.out).2.1)
          (case side3 => exact KC_ (Kd.S_reads' HO152.out).2.2)
          (case side4 => exact (Kd.S_reads' HO152.out).2.1)
          rintro e w116 ⟨rfl, hb⟩
          refine ⟨_, rfl, ?_⟩
          replace HO109 := Zz.mk (Kd.S_below (KS_ HO109.out) hb)
          replace HO114 := Zz.mk (Kd.S_below (KS_ HO114.out) hb)
          replace HO119 := Zz.mk (Kd.S_below (KS_ HO119.out) hb)
          replace HO126 := Zz.mk (Kd.S_below (KS_ HO126.out) hb)
          replace HO132 := Zz.mk (Kd.S_below (KS_ HO132.out) hb)
          replace HO138 := Zz.mk (Kd.S_below (KS_ HO138.out) hb)
          replace HO146 := Zz.mk (Kd.S_below (KS_ HO146.out) hb)
          replace HO152 := Zz.mk (Kd.S_below (KS_ HO152.out) hb)
          replace BK101 := Zz.mk (bB_ (g := gb101) (o := .cells #[.int .i64 a0_0, .int .i64 a0_1, .slice A0_2 l0_2.length c0_2] 24 (0, 0)) (KB_ BK101.out) hb)
          replace BK102 := Zz.mk (bB_ (g := gb102) (o := .cells #[.int .i64 a1_0, .int .i64 a1_1, .slice A1_2 l1_2.length c1_2] 24 (0, 0)) (KB_ BK102.out) hb)
          replace BK121 := Zz.mk (bB_ (g := gb121) (o := .cells #[.int .i64 t115, .int .i64 t116, .slice Ao71 t117.length co71] 29 (0, 0)) (KB_ BK121.out) hb)
          replace BK127 := Zz.mk (bB_ (g := gb127) (o := .cells #[.int .i64 t122, .int .i64 t123, .slice Ao82 t124.length co82] 29 (0, 0)) (KB_ BK127.out) hb)
          replace BK133 := Zz.mk (bB_ (g := gb133) (o := .cells #[.int .i64 t128, .int .i64 t129, .slice Ao93 t130.length co93] 29 (0, 0)) (KB_ BK133.out) hb)
          replace BK140 := Zz.mk (bB_ (g := gb140) (o := .cells #[.int .i64 t134, .int .i64 t135, .slice Ao104 t136.length co104] 29 (0, 0)) (KB_ BK140.out) hb)
          replace HB := Zz.mk (bT_ (Bw6_ HB.out GE101.out GE102.out GE121.out GE127.out GE133.out GE140.out) hb)
          (try clear hb);(try clear hb2);(try clear hk);(try clear hi)
          refine hK.out _ _ ⟨(bC_ BK133.out 0).trans rfl, (bC_ BK133.out 1).trans rfl, (bC_ BK133.out 2).trans rfl, (bC_ BK102.out 0).trans rfl, (bC_ BK102.out 1).trans rfl, (bC_ BK102.out 2).trans rfl⟩ (fun hHeld => ?_)
          clear hK K
          refine NM_ (N := (some 62)) (h := ?_)
          refine pure_ (i := 4) (N := some 63) (v := ?_) (a' := ?_) #[true, true, true, true, true] rfl rfl (by kernel_rfl) (fun _ _ _ h => h) (Or.inl ⟨by rfl, ?_⟩) ?_ ?_
          rotate_left
          ·intro w'
           go_simp
           with_reducible rfl
          rotate_left
          ·simp only [Act.put, List.setIfInBounds_toArray, List.set_cons_zero, List.set_cons_succ, i64_w, i32_w]
           rfl
          refine done_ (by kernel_rfl) ?_
          obtain ⟨hcz117_0, hcz117_1, hcz117_2, hfz117_0, hfz117_1, hfz117_2⟩ := Z3f_ BK127.out
          try go_wp2_with (first | (go_at_call 18; (with_reducible refine (laws_markSpace.calls t122 t123 (fun k_ => ((((((((((((True ∧ some k_ ≠ (v108 : Value).ownBlock) ∧ some k_ ≠ (v113 : Value).ownBlock) ∧ some k_ ≠ (.slice Ao71 t117.length co71 : Value).ownBlock) ∧ nan76 ≤ k_) ∧ some k_ ≠ (.slice Ao93 t130.length co93 : Value).ownBlock) ∧ k_ < nan86) ∧ some k_ ≠ (.slice Ao104 t136.length co104 : Value).ownBlock) ∧ k_ < nan96) ∧ some k_ ≠ (.slice Ao110 t144.length co110 : Value).ownBlock) ∧ k_ < nan109) ∧ some k_ ≠ (.slice Ao115 t150.length co115 : Value).ownBlock) ∧ k_ < nan114) ∧ ∃ q_, q_ ∈ 25 :: ((Kd.slice 2 (Kd.int .i64))).E ∧ ∃ cs_, w116.heap[k_]? = some (.cells cs_ q_ (0, 0))) (.slice Ao82 t124.length co82) t124 1 t154 t155 w _ ?side1 ?side2 A34.out).mono ?_); (case side1 => repeat (first | (with_reducible first | exact HB.out | apply below_alloc | apply pw_below_drewN | apply below_drew1 | refine below_set ?_ GE101.out | refine below_set ?_ GE102.out | refine below_set ?_ GE121.out | refine below_set ?_ GE127.out | refine below_set ?_ GE133.out | refine below_set ?_ GE140.out) | exact HB.out)); (case side2 => exact Kd.S_pin (ok := fun k_ => ((((((((((((True ∧ some k_ ≠ (v108 : Value).ownBlock) ∧ some k_ ≠ (v113 : Value).ownBlock) ∧ some k_ ≠ (.slice Ao71 t117.length co71 : Value).ownBlock) ∧ nan76 ≤ k_) ∧ some k_ ≠ (.slice Ao93 t130.length co93 : Value).ownBlock) ∧ k_ < nan86) ∧ some k_ ≠ (.slice Ao104 t136.length co104 : Value).ownBlock) ∧ k_ < nan96) ∧ some k_ ≠ (.slice Ao110 t144.length co110 : Value).ownBlock) ∧ k_ < nan109) ∧ some k_ ≠ (.slice Ao115 t150.length co115 : Value).ownBlock) ∧ k_ < nan114)) (KS_ HO126.out)); rintro e w118 ⟨rfl, hy0, hb, hkp⟩; replace BK101 := Zz.mk (blk_kept (KB_ BK101.out) hkp (fun hs_ => Kd.typed_ne (KB_ BK101.out) hs_.2 (by decide))); replace BK102 := Zz.mk (blk_kept (KB_ BK102.out) hkp (fun hs_ => Kd.typed_ne (KB_ BK102.out) hs_.2 (by decide))); replace HO109 := Zz.mk (Kd.S_mono (Kd.S_keptB (ok := fun k_ => (((((((((((some k_ ≠ (v113 : Value).ownBlock ∧ some k_ ≠ (.slice Ao71 t117.length co71 : Value).ownBlock) ∧ some k_ ≠ (.slice Ao82 t124.length co82 : Value).ownBlock) ∧ k_ < nan76) ∧ some k_ ≠ (.slice Ao93 t130.length co93 : Value).ownBlock) ∧ k_ < nan86) ∧ some k_ ≠ (.slice Ao104 t136.length co104 : Value).ownBlock) ∧ k_ < nan96) ∧ some k_ ≠ (.slice Ao110 t144.length co110 : Value).ownBlock) ∧ k_ < nan109) ∧ some k_ ≠ (.slice Ao115 t150.length co115 : Value).ownBlock) ∧ k_ < nan114)) (KS_ HO109.out) hkp (fun k_ hk_ hs_ => absurd hs_.1.1.1.1.1.1.1.1.1.2 (Nat.not_le.2 hk_.1.1.1.1.1.1.1.1.2))) (fun k_ hk_ => hk_.1)); replace HO114 := Zz.mk (Kd.S_mono (Kd.S_keptB (ok := fun k_ => (((((((((((some k_ ≠ (v108 : Value).ownBlock ∧ some k_ ≠ (.slice Ao71 t117.length co71 : Value).ownBlock) ∧ some k_ ≠ (.slice Ao82 t124.length co82 : Value).ownBlock) ∧ k_ < nan76) ∧ some k_ ≠ (.slice Ao93 t130.length co93 : Value).ownBlock) ∧ k_ < nan86) ∧ some k_ ≠ (.slice Ao104 t136.length co104 : Value).ownBlock) ∧ k_ < nan96) ∧ some k_ ≠ (.slice Ao110 t144.length co110 : Value).ownBlock) ∧ k_ < nan109) ∧ some k_ ≠ (.slice Ao115 t150.length co115 : Value).ownBlock) ∧ k_ < nan114)) (KS_ HO114.out) hkp (fun k_ hk_ hs_ => absurd hs_.1.1.1.1.1.1.1.1.1.2 (Nat.not_le.2 hk_.1.1.1.1.1.1.1.1.2))) (fun k_ hk_ => hk_.1)); replace HO119 := Zz.mk (Kd.S_mono (Kd.S_keptB (ok := fun k_ => (((((((((((some k_ ≠ (v108 : Value).ownBlock ∧ some k_ ≠ (v113 : Value).ownBlock) ∧ some k_ ≠ (.slice Ao82 t124.length co82 : Value).ownBlock) ∧ k_ < nan76) ∧ some k_ ≠ (.slice Ao93 t130.length co93 : Value).ownBlock) ∧ k_ < nan86) ∧ some k_ ≠ (.slice Ao104 t136.length co104 : Value).ownBlock) ∧ k_ < nan96) ∧ some k_ ≠ (.slice Ao110 t144.length co110 : Value).ownBlock) ∧ k_ < nan109) ∧ some k_ ≠ (.slice Ao115 t150.length co115 : Value).ownBlock) ∧ k_ < nan114)) (KS_ HO119.out) hkp (fun k_ hk_ hs_ => absurd hs_.1.1.1.1.1.1.1.1.1.2 (Nat.not_le.2 hk_.1.1.1.1.1.1.1.1.2))) (fun k_ hk_ => hk_.1)); replace BK121 := Zz.mk (blk_kept (KB_ BK121.out) hkp (fun hs_ => Kd.typed_ne (KB_ BK121.out) hs_.2 (by decide))); replace HO126 := Zz.mk (Kd.S_mono hy0 (fun k_ hk_ => hk_.1)); replace BK127 := Zz.mk (blk_kept (KB_ BK127.out) hkp (fun hs_ => Kd.typed_ne (KB_ BK127.out) hs_.2 (by decide))); replace HO132 := Zz.mk (Kd.S_mono (Kd.S_keptB (ok := fun k_ => (((((((((((True ∧ some k_ ≠ (v108 : Value).ownBlock) ∧ some k_ ≠ (v113 : Value).ownBlock) ∧ some k_ ≠ (.slice Ao71 t117.length co71 : Value).ownBlock) ∧ some k_ ≠ (.slice Ao82 t124.length co82 : Value).ownBlock) ∧ nan86 ≤ k_) ∧ some k_ ≠ (.slice Ao104 t136.length co104 : Value).ownBlock) ∧ k_ < nan96) ∧ some k_ ≠ (.slice Ao110 t144.length co110 : Value).ownBlock) ∧ k_ < nan109) ∧ some k_ ≠ (.slice Ao115 t150.length co115 : Value).ownBlock) ∧ k_ < nan114)) (KS_ HO132.out) hkp (fun k_ hk_ hs_ => absurd hk_.1.1.1.1.1.1.2 (Nat.not_le.2 hs_.1.1.1.1.1.1.1.2))) (fun k_ hk_ => hk_.1)); replace BK133 := Zz.mk (blk_kept (KB_ BK133.out) hkp (fun hs_ => Kd.typed_ne (KB_ BK133.out) hs_.2 (by decide))); replace HO138 := Zz.mk (Kd.S_mono (Kd.S_keptB (ok := fun k_ => ((((((((((True ∧ some k_ ≠ (v108 : Value).ownBlock) ∧ some k_ ≠ (v113 : Value).ownBlock) ∧ some k_ ≠ (.slice Ao71 t117.length co71 : Value).ownBlock) ∧ some k_ ≠ (.slice Ao82 t124.length co82 : Value).ownBlock) ∧ some k_ ≠ (.slice Ao93 t130.length co93 : Value).ownBlock) ∧ nan96 ≤ k_) ∧ some k_ ≠ (.slice Ao110 t144.length co110 : Value).ownBlock) ∧ k_ < nan109) ∧ some k_ ≠ (.slice Ao115 t150.length co115 : Value).ownBlock) ∧ k_ < nan114)) (KS_ HO138.out) hkp (fun k_ hk_ hs_ => absurd hk_.1.1.1.1.2 (Nat.not_le.2 hs_.1.1.1.1.1.2))) (fun k_ hk_ => hk_.1)); replace BK140 := Zz.mk (blk_kept (KB_ BK140.out) hkp (fun hs_ => Kd.typed_ne (KB_ BK140.out) hs_.2 (by decide))); replace HO146 := Zz.mk (Kd.S_mono (Kd.S_keptB (ok := fun k_ => (((((((((True ∧ some k_ ≠ (v108 : Value).ownBlock) ∧ some k_ ≠ (v113 : Value).ownBlock) ∧ some k_ ≠ (.slice Ao71 t117.length co71 : Value).ownBlock) ∧ some k_ ≠ (.slice Ao82 t124.length co82 : Value).ownBlock) ∧ some k_ ≠ (.slice Ao93 t130.length co93 : Value).ownBlock) ∧ some k_ ≠ (.slice Ao104 t136.length co104 : Value).ownBlock) ∧ nan109 ≤ k_) ∧ some k_ ≠ (.slice Ao115 t150.length co115 : Value).ownBlock) ∧ k_ < nan114)) (KS_ HO146.out) hkp (fun k_ hk_ hs_ => absurd hk_.1.1.2 (Nat.not_le.2 hs_.1.1.1.2))) (fun k_ hk_ => hk_.1)); replace HO152 := Zz.mk (Kd.S_mono (Kd.S_keptB (ok := fun k_ => ((((((((True ∧ some k_ ≠ (v108 : Value).ownBlock) ∧ some k_ ≠ (v113 : Value).ownBlock) ∧ some k_ ≠ (.slice Ao71 t117.length co71 : Value).ownBlock) ∧ some k_ ≠ (.slice Ao82 t124.length co82 : Value).ownBlock) ∧ some k_ ≠ (.slice Ao93 t130.length co93 : Value).ownBlock) ∧ some k_ ≠ (.slice Ao104 t136.length co104 : Value).ownBlock) ∧ some k_ ≠ (.slice Ao110 t144.length co110 : Value).ownBlock) ∧ nan114 ≤ k_)) (KS_ HO152.out) hkp (fun k_ hk_ hs_ => absurd hk_.2 (Nat.not_le.2 hs_.1.2))) (fun k_ hk_ => hk_.1)); replace HB := Zz.mk (hb); (try clear hb hkp hy0); obtain ⟨hcz119_0, hcz119_1, hcz119_2, hfz119_0, hfz119_1, hfz119_2⟩ := Z3f_ BK133.out) | (go_at_call 18; (with_reducible refine (laws_markSpace.calls t128 t129 (fun k_ => (((((((((((True ∧ some k_ ≠ (v108 : Value).ownBlock) ∧ some k_ ≠ (v113 : Value).ownBlock) ∧ some k_ ≠ (.slice Ao71 t117.length co71 : Value).ownBlock) ∧ some k_ ≠ (.slice Ao82 t124.length co82 : Value).ownBlock) ∧ nan86 ≤ k_) ∧ some k_ ≠ (.slice Ao104 t136.length co104 : Value).ownBlock) ∧ k_ < nan96) ∧ some k_ ≠ (.slice Ao110 t144.length co110 : Value).ownBlock) ∧ k_ < nan109) ∧ some k_ ≠ (.slice Ao115 t150.length co115 : Value).ownBlock) ∧ k_ < nan114) ∧ ∃ q_, q_ ∈ 25 :: ((Kd.slice 2 (Kd.int .i64))).E ∧ ∃ cs_, w118.heap[k_]? = some (.cells cs_ q_ (0, 0))) (.slice Ao93 t130.length co93) t130 t154 t156 t157 w _ ?side1 ?side2 A35.out).mono ?_); (case side1 => repeat (first | (with_reducible first | exact HB.out | apply below_alloc | apply pw_below_drewN | apply below_drew1 | refine below_set ?_ GE101.out | refine below_set ?_ GE102.out | refine below_set ?_ GE121.out | refine below_set ?_ GE127.out | refine below_set ?_ GE133.out | refine below_set ?_ GE140.out) | exact HB.out)); (case side2 => exact Kd.S_pin (ok := fun k_ => (((((((((((True ∧ some k_ ≠ (v108 : Value).ownBlock) ∧ some k_ ≠ (v113 : Value).ownBlock) ∧ some k_ ≠ (.slice Ao71 t117.length co71 : Value).ownBlock) ∧ some k_ ≠ (.slice Ao82 t124.length co82 : Value).ownBlock) ∧ nan86 ≤ k_) ∧ some k_ ≠ (.slice Ao104 t136.length co104 : Value).ownBlock) ∧ k_ < nan96) ∧ some k_ ≠ (.slice Ao110 t144.length co110 : Value).ownBlock) ∧ k_ < nan109) ∧ some k_ ≠ (.slice Ao115 t150.length co115 : Value).ownBlock) ∧ k_ < nan114)) (KS_ HO132.out)); rintro e w120 ⟨rfl, hy0, hb, hkp⟩; replace BK101 := Zz.mk (blk_kept (KB_ BK101.out) hkp (fun hs_ => Kd.typed_ne (KB_ BK101.out) hs_.2 (by decide))); replace BK102 := Zz.mk (blk_kept (KB_ BK102.out) hkp (fun hs_ => Kd.typed_ne (KB_ BK102.out) hs_.2 (by decide))); replace HO109 := Zz.mk (Kd.S_mono (Kd.S_keptB (ok := fun k_ => (((((((((((some k_ ≠ (v113 : Value).ownBlock ∧ some k_ ≠ (.slice Ao71 t117.length co71 : Value).ownBlock) ∧ some k_ ≠ (.slice Ao82 t124.length co82 : Value).ownBlock) ∧ k_ < nan76) ∧ some k_ ≠ (.slice Ao93 t130.length co93 : Value).ownBlock) ∧ k_ < nan86) ∧ some k_ ≠ (.slice Ao104 t136.length co104 : Value).ownBlock) ∧ k_ < nan96) ∧ some k_ ≠ (.slice Ao110 t144.length co110 : Value).ownBlock) ∧ k_ < nan109) ∧ some k_ ≠ (.slice Ao115 t150.length co115 : Value).ownBlock) ∧ k_ < nan114)) (KS_ HO109.out) hkp (fun k_ hk_ hs_ => absurd hs_.1.1.1.1.1.1.1.2 (Nat.not_le.2 hk_.1.1.1.1.1.1.2))) (fun k_ hk_ => hk_.1)); replace HO114 := Zz.mk (Kd.S_mono (Kd.S_keptB (ok := fun k_ => (((((((((((some k_ ≠ (v108 : Value).ownBlock ∧ some k_ ≠ (.slice Ao71 t117.length co71 : Value).ownBlock) ∧ some k_ ≠ (.slice Ao82 t124.length co82 : Value).ownBlock) ∧ k_ < nan76) ∧ some k_ ≠ (.slice Ao93 t130.length co93 : Value).ownBlock) ∧ k_ < nan86) ∧ some k_ ≠ (.slice Ao104 t136.length co104 : Value).ownBlock) ∧ k_ < nan96) ∧ some k_ ≠ (.slice Ao110 t144.length co110 : Value).ownBlock) ∧ k_ < nan109) ∧ some k_ ≠ (.slice Ao115 t150.length co115 : Value).ownBlock) ∧ k_ < nan114)) (KS_ HO114.out) hkp (fun k_ hk_ hs_ => absurd hs_.1.1.1.1.1.1.1.2 (Nat.not_le.2 hk_.1.1.1.1.1.1.2))) (fun k_ hk_ => hk_.1)); replace HO119 := Zz.mk (Kd.S_mono (Kd.S_keptB (ok := fun k_ => (((((((((((some k_ ≠ (v108 : Value).ownBlock ∧ some k_ ≠ (v113 : Value).ownBlock) ∧ some k_ ≠ (.slice Ao82 t124.length co82 : Value).ownBlock) ∧ k_ < nan76) ∧ some k_ ≠ (.slice Ao93 t130.length co93 : Value).ownBlock) ∧ k_ < nan86) ∧ some k_ ≠ (.slice Ao104 t136.length co104 : Value).ownBlock) ∧ k_ < nan96) ∧ some k_ ≠ (.slice Ao110 t144.length co110 : Value).ownBlock) ∧ k_ < nan109) ∧ some k_ ≠ (.slice Ao115 t150.length co115 : Value).ownBlock) ∧ k_ < nan114)) (KS_ HO119.out) hkp (fun k_ hk_ hs_ => absurd hs_.1.1.1.1.1.1.1.2 (Nat.not_le.2 hk_.1.1.1.1.1.1.2))) (fun k_ hk_ => hk_.1)); replace BK121 := Zz.mk (blk_kept (KB_ BK121.out) hkp (fun hs_ => Kd.typed_ne (KB_ BK121.out) hs_.2 (by decide))); replace HO126 := Zz.mk (Kd.S_mono (Kd.S_keptB (ok := fun k_ => ((((((((((((True ∧ some k_ ≠ (v108 : Value).ownBlock) ∧ some k_ ≠ (v113 : Value).ownBlock) ∧ some k_ ≠ (.slice Ao71 t117.length co71 : Value).ownBlock) ∧ nan76 ≤ k_) ∧ some k_ ≠ (.slice Ao93 t130.length co93 : Value).ownBlock) ∧ k_ < nan86) ∧ some k_ ≠ (.slice Ao104 t136.length co104 : Value).ownBlock) ∧ k_ < nan96) ∧ some k_ ≠ (.slice Ao110 t144.length co110 : Value).ownBlock) ∧ k_ < nan109) ∧ some k_ ≠ (.slice Ao115 t150.length co115 : Value).ownBlock) ∧ k_ < nan114)) (KS_ HO126.out) hkp (fun k_ hk_ hs_ => absurd hs_.1.1.1.1.1.1.1.2 (Nat.not_le.2 hk_.1.1.1.1.1.1.2))) (fun k_ hk_ => hk_.1)); replace BK127 := Zz.mk (blk_kept (KB_ BK127.out) hkp (fun hs_ => Kd.typed_ne (KB_ BK127.out) hs_.2 (by decide))); replace HO132 := Zz.mk (Kd.S_mono hy0 (fun k_ hk_ => hk_.1)); replace BK133 := Zz.mk (blk_kept (KB_ BK133.out) hkp (fun hs_ => Kd.typed_ne (KB_ BK133.out) hs_.2 (by decide))); replace HO138 := Zz.mk (Kd.S_mono (Kd.S_keptB (ok := fun k_ => ((((((((((True ∧ some k_ ≠ (v108 : Value).ownBlock) ∧ some k_ ≠ (v113 : Value).ownBlock) ∧ some k_ ≠ (.slice Ao71 t117.length co71 : Value).ownBlock) ∧ some k_ ≠ (.slice Ao82 t124.length co82 : Value).ownBlock) ∧ some k_ ≠ (.slice Ao93 t130.length co93 : Value).ownBlock) ∧ nan96 ≤ k_) ∧ some k_ ≠ (.slice Ao110 t144.length co110 : Value).ownBlock) ∧ k_ < nan109) ∧ some k_ ≠ (.slice Ao115 t150.length co115 : Value).ownBlock) ∧ k_ < nan114)) (KS_ HO138.out) hkp (fun k_ hk_ hs_ => absurd hk_.1.1.1.1.2 (Nat.not_le.2 hs_.1.1.1.1.1.2))) (fun k_ hk_ => hk_.1)); replace BK140 := Zz.mk (blk_kept (KB_ BK140.out) hkp (fun hs_ => Kd.typed_ne (KB_ BK140.out) hs_.2 (by decide))); replace HO146 := Zz.mk (Kd.S_mono (Kd.S_keptB (ok := fun k_ => (((((((((True ∧ some k_ ≠ (v108 : Value).ownBlock) ∧ some k_ ≠ (v113 : Value).ownBlock) ∧ some k_ ≠ (.slice Ao71 t117.length co71 : Value).ownBlock) ∧ some k_ ≠ (.slice Ao82 t124.length co82 : Value).ownBlock) ∧ some k_ ≠ (.slice Ao93 t130.length co93 : Value).ownBlock) ∧ some k_ ≠ (.slice Ao104 t136.length co104 : Value).ownBlock) ∧ nan109 ≤ k_) ∧ some k_ ≠ (.slice Ao115 t150.length co115 : Value).ownBlock) ∧ k_ < nan114)) (KS_ HO146.out) hkp (fun k_ hk_ hs_ => absurd hk_.1.1.2 (Nat.not_le.2 hs_.1.1.1.2))) (fun k_ hk_ => hk_.1)); replace HO152 := Zz.mk (Kd.S_mono (Kd.S_keptB (ok := fun k_ => ((((((((True ∧ some k_ ≠ (v108 : Value).ownBlock) ∧ some k_ ≠ (v113 : Value).ownBlock) ∧ some k_ ≠ (.slice Ao71 t117.length co71 : Value).ownBlock) ∧ some k_ ≠ (.slice Ao82 t124.length co82 : Value).ownBlock) ∧ some k_ ≠ (.slice Ao93 t130.length co93 : Value).ownBlock) ∧ some k_ ≠ (.slice Ao104 t136.length co104 : Value).ownBlock) ∧ some k_ ≠ (.slice Ao110 t144.length co110 : Value).ownBlock) ∧ nan114 ≤ k_)) (KS_ HO152.out) hkp (fun k_ hk_ hs_ => absurd hk_.2 (Nat.not_le.2 hs_.1.2))) (fun k_ hk_ => hk_.1)); replace HB := Zz.mk (hb); (try clear hb hkp hy0); obtain ⟨hcz121_0, hcz121_1, hcz121_2, hfz121_0, hfz121_1, hfz121_2⟩ := Z3f_ BK140.out; obtain ⟨hcz122_0, hcz122_1, hcz122_2, hfz122_0, hfz122_1, hfz122_2⟩ := Z3f_ BK121.out) | (go_at_call 17; (with_reducible refine (z17.calls k t134 t135 _ _ t136 t115 t116 _ _ t117 true _ ?side1 ?side2 ?side3 ?side4 A37.out).mono ?_); (case side1 => exact KC_ (Kd.S_reads' HO138.out).2.2); (case side2 => exact (Kd.S_reads' HO138.out).2.1); (case side3 => exact KC_ (Kd.S_reads' HO119.out).2.2); (case side4 => exact (Kd.S_reads' HO119.out).2.1); rintro e w123 ⟨rfl, hb⟩; replace HO109 := Zz.mk (Kd.S_below (KS_ HO109.out) hb); replace HO114 := Zz.mk (Kd.S_below (KS_ HO114.out) hb); replace HO119 := Zz.mk (Kd.S_below (KS_ HO119.out) hb); replace HO126 := Zz.mk (Kd.S_below (KS_ HO126.out) hb); replace HO132 := Zz.mk (Kd.S_below (KS_ HO132.out) hb); replace HO138 := Zz.mk (Kd.S_below (KS_ HO138.out) hb); replace HO146 := Zz.mk (Kd.S_below (KS_ HO146.out) hb); replace HO152 := Zz.mk (Kd.S_below (KS_ HO152.out) hb); replace BK101 := Zz.mk (bB_ (g := gb101) (o := .cells #[.int .i64 a0_0, .int .i64 a0_1, .slice A0_2 l0_2.length c0_2] 24 (0, 0)) (KB_ BK101.out) hb); replace BK102 := Zz.mk (bB_ (g := gb102) (o := .cells #[.int .i64 a1_0, .int .i64 a1_1, .slice A1_2 l1_2.length c1_2] 24 (0, 0)) (KB_ BK102.out) hb); replace BK121 := Zz.mk (bB_ (g := gb121) (o := .cells #[.int .i64 t115, .int .i64 t116, .slice Ao71 t117.length co71] 29 (0, 0)) (KB_ BK121.out) hb); replace BK127 := Zz.mk (bB_ (g := gb127) (o := .cells #[.int .i64 t122, .int .i64 t123, .slice Ao82 t124.length co82] 29 (0, 0)) (KB_ BK127.out) hb); replace BK133 := Zz.mk (bB_ (g := gb133) (o := .cells #[.int .i64 t128, .int .i64 t129, .slice Ao93 t130.length co93] 29 (0, 0)) (KB_ BK133.out) hb); replace BK140 := Zz.mk (bB_ (g := gb140) (o := .cells #[.int .i64 t134, .int .i64 t135, .slice Ao104 t136.length co104] 29 (0, 0)) (KB_ BK140.out) hb); replace HB := Zz.mk (bT_ (Bw6_ HB.out GE101.out GE102.out GE121.out GE127.out GE133.out GE140.out) hb); (try clear hb); (try clear hb2); (try clear hk); (try clear hi); obtain ⟨hcz124_0, hcz124_1, hcz124_2, hfz124_0, hfz124_1, hfz124_2⟩ := Z3f_ BK140.out) | (go_at_call 18; (with_reducible refine (laws_markSpace.calls t134 t135 (fun k_ => ((((((((((True ∧ some k_ ≠ (v108 : Value).ownBlock) ∧ some k_ ≠ (v113 : Value).ownBlock) ∧ some k_ ≠ (.slice Ao71 t117.length co71 : Value).ownBlock) ∧ some k_ ≠ (.slice Ao82 t124.length co82 : Value).ownBlock) ∧ some k_ ≠ (.slice Ao93 t130.length co93 : Value).ownBlock) ∧ nan96 ≤ k_) ∧ some k_ ≠ (.slice Ao110 t144.length co110 : Value).ownBlock) ∧ k_ < nan109) ∧ some k_ ≠ (.slice Ao115 t150.length co115 : Value).ownBlock) ∧ k_ < nan114) ∧ ∃ q_, q_ ∈ 25 :: ((Kd.slice 2 (Kd.int .i64))).E ∧ ∃ cs_, w123.heap[k_]? = some (.cells cs_ q_ (0, 0))) (.slice Ao104 t136.length co104) t136 1 t159 t160 w _ ?side1 ?side2 A39.out).mono ?_); (case side1 => repeat (first | (with_reducible first | exact HB.out | apply below_alloc | apply pw_below_drewN | apply below_drew1 | refine below_set ?_ GE101.out | refine below_set ?_ GE102.out | refine below_set ?_ GE121.out | refine below_set ?_ GE127.out | refine below_set ?_ GE133.out | refine below_set ?_ GE140.out) | exact HB.out)); (case side2 => exact Kd.S_pin (ok := fun k_ => ((((((((((True ∧ some k_ ≠ (v108 : Value).ownBlock) ∧ some k_ ≠ (v113 : Value).ownBlock) ∧ some k_ ≠ (.slice Ao71 t117.length co71 : Value).ownBlock) ∧ some k_ ≠ (.slice Ao82 t124.length co82 : Value).ownBlock) ∧ some k_ ≠ (.slice Ao93 t130.length co93 : Value).ownBlock) ∧ nan96 ≤ k_) ∧ some k_ ≠ (.slice Ao110 t144.length co110 : Value).ownBlock) ∧ k_ < nan109) ∧ some k_ ≠ (.slice Ao115 t150.length co115 : Value).ownBlock) ∧ k_ < nan114)) (KS_ HO138.out)); rintro e w125 ⟨rfl, hy0, hb, hkp⟩; replace BK101 := Zz.mk (blk_kept (KB_ BK101.out) hkp (fun hs_ => Kd.typed_ne (KB_ BK101.out) hs_.2 (by decide))); replace BK102 := Zz.mk (blk_kept (KB_ BK102.out) hkp (fun hs_ => Kd.typed_ne (KB_ BK102.out) hs_.2 (by decide))); replace HO109 := Zz.mk (Kd.S_mono (Kd.S_keptB (ok := fun k_ => (((((((((((some k_ ≠ (v113 : Value).ownBlock ∧ some k_ ≠ (.slice Ao71 t117.length co71 : Value).ownBlock) ∧ some k_ ≠ (.slice Ao82 t124.length co82 : Value).ownBlock) ∧ k_ < nan76) ∧ some k_ ≠ (.slice Ao93 t130.length co93 : Value).ownBlock) ∧ k_ < nan86) ∧ some k_ ≠ (.slice Ao104 t136.length co104 : Value).ownBlock) ∧ k_ < nan96) ∧ some k_ ≠ (.slice Ao110 t144.length co110 : Value).ownBlock) ∧ k_ < nan109) ∧ some k_ ≠ (.slice Ao115 t150.length co115 : Value).ownBlock) ∧ k_ < nan114)) (KS_ HO109.out) hkp (fun k_ hk_ hs_ => absurd hs_.1.1.1.1.1.2 (Nat.not_le.2 hk_.1.1.1.1.2))) (fun k_ hk_ => hk_.1)); replace HO114 := Zz.mk (Kd.S_mono (Kd.S_keptB (ok := fun k_ => (((((((((((some k_ ≠ (v108 : Value).ownBlock ∧ some k_ ≠ (.slice Ao71 t117.length co71 : Value).ownBlock) ∧ some k_ ≠ (.slice Ao82 t124.length co82 : Value).ownBlock) ∧ k_ < nan76) ∧ some k_ ≠ (.slice Ao93 t130.length co93 : Value).ownBlock) ∧ k_ < nan86) ∧ some k_ ≠ (.slice Ao104 t136.length co104 : Value).ownBlock) ∧ k_ < nan96) ∧ some k_ ≠ (.slice Ao110 t144.length co110 : Value).ownBlock) ∧ k_ < nan109) ∧ some k_ ≠ (.slice Ao115 t150.length co115 : Value).ownBlock) ∧ k_ < nan114)) (KS_ HO114.out) hkp (fun k_ hk_ hs_ => absurd hs_.1.1.1.1.1.2 (Nat.not_le.2 hk_.1.1.1.1.2))) (fun k_ hk_ => hk_.1)); replace HO119 := Zz.mk (Kd.S_mono (Kd.S_keptB (ok := fun k_ => (((((((((((some k_ ≠ (v108 : Value).ownBlock ∧ some k_ ≠ (v113 : Value).ownBlock) ∧ some k_ ≠ (.slice Ao82 t124.length co82 : Value).ownBlock) ∧ k_ < nan76) ∧ some k_ ≠ (.slice Ao93 t130.length co93 : Value).ownBlock) ∧ k_ < nan86) ∧ some k_ ≠ (.slice Ao104 t136.length co104 : Value).ownBlock) ∧ k_ < nan96) ∧ some k_ ≠ (.slice Ao110 t144.length co110 : Value).ownBlock) ∧ k_ < nan109) ∧ some k_ ≠ (.slice Ao115 t150.length co115 : Value).ownBlock) ∧ k_ < nan114)) (KS_ HO119.out) hkp (fun k_ hk_ hs_ => absurd hs_.1.1.1.1.1.2 (Nat.not_le.2 hk_.1.1.1.1.2))) (fun k_ hk_ => hk_.1)); replace BK121 := Zz.mk (blk_kept (KB_ BK121.out) hkp (fun hs_ => Kd.typed_ne (KB_ BK121.out) hs_.2 (by decide))); replace HO126 := Zz.mk (Kd.S_mono (Kd.S_keptB (ok := fun k_ => ((((((((((((True ∧ some k_ ≠ (v108 : Value).ownBlock) ∧ some k_ ≠ (v113 : Value).ownBlock) ∧ some k_ ≠ (.slice Ao71 t117.length co71 : Value).ownBlock) ∧ nan76 ≤ k_) ∧ some k_ ≠ (.slice Ao93 t130.length co93 : Value).ownBlock) ∧ k_ < nan86) ∧ some k_ ≠ (.slice Ao104 t136.length co104 : Value).ownBlock) ∧ k_ < nan96) ∧ some k_ ≠ (.slice Ao110 t144.length co110 : Value).ownBlock) ∧ k_ < nan109) ∧ some k_ ≠ (.slice Ao115 t150.length co115 : Value).ownBlock) ∧ k_ < nan114)) (KS_ HO126.out) hkp (fun k_ hk_ hs_ => absurd hs_.1.1.1.1.1.2 (Nat.not_le.2 hk_.1.1.1.1.2))) (fun k_ hk_ => hk_.1)); replace BK127 := Zz.mk (blk_kept (KB_ BK127.out) hkp (fun hs_ => Kd.typed_ne (KB_ BK127.out) hs_.2 (by decide))); replace HO132 := Zz.mk (Kd.S_mono (Kd.S_keptB (ok := fun k_ => (((((((((((True ∧ some k_ ≠ (v108 : Value).ownBlock) ∧ some k_ ≠ (v113 : Value).ownBlock) ∧ some k_ ≠ (.slice Ao71 t117.length co71 : Value).ownBlock) ∧ some k_ ≠ (.slice Ao82 t124.length co82 : Value).ownBlock) ∧ nan86 ≤ k_) ∧ some k_ ≠ (.slice Ao104 t136.length co104 : Value).ownBlock) ∧ k_ < nan96) ∧ some k_ ≠ (.slice Ao110 t144.length co110 : Value).ownBlock) ∧ k_ < nan109) ∧ some k_ ≠ (.slice Ao115 t150.length co115 : Value).ownBlock) ∧ k_ < nan114)) (KS_ HO132.out) hkp (fun k_ hk_ hs_ => absurd hs_.1.1.1.1.1.2 (Nat.not_le.2 hk_.1.1.1.1.2))) (fun k_ hk_ => hk_.1)); replace BK133 := Zz.mk (blk_kept (KB_ BK133.out) hkp (fun hs_ => Kd.typed_ne (KB_ BK133.out) hs_.2 (by decide))); replace HO138 := Zz.mk (Kd.S_mono hy0 (fun k_ hk_ => hk_.1)); replace BK140 := Zz.mk (blk_kept (KB_ BK140.out) hkp (fun hs_ => Kd.typed_ne (KB_ BK140.out) hs_.2 (by decide))); replace HO146 := Zz.mk (Kd.S_mono (Kd.S_keptB (ok := fun k_ => (((((((((True ∧ some k_ ≠ (v108 : Value).ownBlock) ∧ some k_ ≠ (v113 : Value).ownBlock) ∧ some k_ ≠ (.slice Ao71 t117.length co71 : Value).ownBlock) ∧ some k_ ≠ (.slice Ao82 t124.length co82 : Value).ownBlock) ∧ some k_ ≠ (.slice Ao93 t130.length co93 : Value).ownBlock) ∧ some k_ ≠ (.slice Ao104 t136.length co104 : Value).ownBlock) ∧ nan109 ≤ k_) ∧ some k_ ≠ (.slice Ao115 t150.length co115 : Value).ownBlock) ∧ k_ < nan114)) (KS_ HO146.out) hkp (fun k_ hk_ hs_ => absurd hk_.1.1.2 (Nat.not_le.2 hs_.1.1.1.2))) (fun k_ hk_ => hk_.1)); replace HO152 := Zz.mk (Kd.S_mono (Kd.S_keptB (ok := fun k_ => ((((((((True ∧ some k_ ≠ (v108 : Value).ownBlock) ∧ some k_ ≠ (v113 : Value).ownBlock) ∧ some k_ ≠ (.slice Ao71 t117.length co71 : Value).ownBlock) ∧ some k_ ≠ (.slice Ao82 t124.length co82 : Value).ownBlock) ∧ some k_ ≠ (.slice Ao93 t130.length co93 : Value).ownBlock) ∧ some k_ ≠ (.slice Ao104 t136.length co104 : Value).ownBlock) ∧ some k_ ≠ (.slice Ao110 t144.length co110 : Value).ownBlock) ∧ nan114 ≤ k_)) (KS_ HO152.out) hkp (fun k_ hk_ hs_ => absurd hk_.2 (Nat.not_le.2 hs_.1.2))) (fun k_ hk_ => hk_.1)); replace HB := Zz.mk (hb); (try clear hb hkp hy0); obtain ⟨hcz126_0, hcz126_1, hcz126_2, hfz126_0, hfz126_1, hfz126_2⟩ := Z3f_ BK140.out) | ((with_reducible refine gC_ (f := 23) rfl ?_); refine goesL_ (some 88) rfl rfl Try.func23 (by kernel_rfl) rfl #[.agg #[.int .i64 t134, .int .i64 t135, .slice Ao104 t160.length co104], .int .i64 1] rfl (by (try simp only [List.map_toArray, List.map_cons, List.map_nil]); first | done | (rw [show t160.length = t136.length from (Kd.S_reads' HO138.out).1.symm] <;> rfl) | rfl | (simp only [List.length_drop, List.length_take]; rfl)) ?_; (with_reducible refine (z23.calls k t134 t135 _ _ t160 1 t161 _ ?side1 ?side2 A40.out).mono ?_); (case side1 => exact KC_ (Kd.S_reads' HO138.out).2.2); (case side2 => rw [show t160.length = t136.length from (Kd.S_reads' HO138.out).1.symm]; exact (Kd.S_reads' HO138.out).2.1); rintro e w127 ⟨rfl, hb⟩; refine ⟨_, rfl, ?_⟩; replace HO109 := Zz.mk (Kd.S_below (KS_ HO109.out) hb); replace HO114 := Zz.mk (Kd.S_below (KS_ HO114.out) hb); replace HO119 := Zz.mk (Kd.S_below (KS_ HO119.out) hb); replace HO126 := Zz.mk (Kd.S_below (KS_ HO126.out) hb); replace HO132 := Zz.mk (Kd.S_below (KS_ HO132.out) hb); replace HO138 := Zz.mk (Kd.S_below (KS_ HO138.out) hb); replace HO146 := Zz.mk (Kd.S_below (KS_ HO146.out) hb); replace HO152 := Zz.mk (Kd.S_below (KS_ HO152.out) hb); replace BK101 := Zz.mk (bB_ (g := gb101) (o := .cells #[.int .i64 a0_0, .int .i64 a0_1, .slice A0_2 l0_2.length c0_2] 24 (0, 0)) (KB_ BK101.out) hb); replace BK102 := Zz.mk (bB_ (g := gb102) (o := .cells #[.int .i64 a1_0, .int .i64 a1_1, .slice A1_2 l1_2.length c1_2] 24 (0, 0)) (KB_ BK102.out) hb); replace BK121 := Zz.mk (bB_ (g := gb121) (o := .cells #[.int .i64 t115, .int .i64 t116, .slice Ao71 t117.length co71] 29 (0, 0)) (KB_ BK121.out) hb); replace BK127 := Zz.mk (bB_ (g := gb127) (o := .cells #[.int .i64 t122, .int .i64 t123, .slice Ao82 t124.length co82] 29 (0, 0)) (KB_ BK127.out) hb); replace BK133 := Zz.mk (bB_ (g := gb133) (o := .cells #[.int .i64 t128, .int .i64 t129, .slice Ao93 t130.length co93] 29 (0, 0)) (KB_ BK133.out) hb); replace BK140 := Zz.mk (bB_ (g := gb140) (o := .cells #[.int .i64 t134, .int .i64 t135, .slice Ao104 t136.length co104] 29 (0, 0)) (KB_ BK140.out) hb); replace HB := Zz.mk (bT_ (Bw6_ HB.out GE101.out GE102.out GE121.out GE127.out GE133.out GE140.out) hb); (try clear hb); (try clear hb2); (try clear hk); (try clear hi)))
          replace HO109 := Zz.mk (Kd.S_drew HO109.out)
          replace HO114 := Zz.mk (Kd.S_drew HO114.out)
          replace HO119 := Zz.mk (Kd.S_drew HO119.out)
          replace HO126 := Zz.mk (Kd.S_drew HO126.out)
          replace HO132 := Zz.mk (Kd.S_drew HO132.out)
          replace HO138 := Zz.mk (Kd.S_drew HO138.out)
          replace HO146 := Zz.mk (Kd.S_drew HO146.out)
          replace HO152 := Zz.mk (Kd.S_drew HO152.out)
          replace BK101 := Zz.mk (bD_ BK101.out)
          replace BK102 := Zz.mk (bD_ BK102.out)
          replace BK121 := Zz.mk (bD_ BK121.out)
          replace BK127 := Zz.mk (bD_ BK127.out)
          replace BK133 := Zz.mk (bD_ BK133.out)
          replace BK140 := Zz.mk (bD_ BK140.out)
          replace HB := Zz.mk (below_drew1 HB.out)
          refine start_ (n := 11) (S := fun w' => w'.cell? ⟨gb101, 0, none⟩ = some (.int .i64 a0_0) ∧ w'.cell? ⟨gb101, 1, none⟩ = some (.int .i64 a0_1) ∧ w'.cell? ⟨gb101, 2, none⟩ = some (.slice A0_2 l0_2.length c0_2) ∧ w'.cell? ⟨gb102, 0, none⟩ = some (.int .i64 a1_0) ∧ w'.cell? ⟨gb102, 1, none⟩ = some (.int .i64 a1_1) ∧ w'.cell? ⟨gb102, 2, none⟩ = some (.slice A1_2 l1_2.length c1_2)) (ds := []) (tb_ 11 0) (by kernel_rfl) rfl rfl ⟨(bC_ BK101.out 0).trans rfl, (bC_ BK101.out 1).trans rfl, (bC_ BK101.out 2).trans rfl, (bC_ BK102.out 0).trans rfl, (bC_ BK102.out 1).trans rfl, (bC_ BK102.out 2).trans rfl⟩ (fun hHeld => ?_); refine with_tabW z4.tab31 z4.bits31 (fun HT_ HW_ => ?_)
          generalize w127.drew = w128 at HO109 HO114 HO119 HO126 HO132 HO138 HO146 HO152 BK101 BK102 BK121 BK127 BK133 BK140 HB hHeld ⊢
          refine TV_ (i := 0) (N := some 95) (tb_ 11 1) HT_ HW_ rfl rfl hHeld (by rintro w' ⟨s0, s1, s2, s3, s4, s5⟩; go_simp; with_reducible rfl) (h := ?_)
          refine TV_ (i := 2) (N := some 97) (tb_ 11 5) HT_ HW_ rfl rfl hHeld (by rintro w' ⟨s0, s1, s2, s3, s4, s5⟩; go_simp; with_reducible rfl) (h := ?_)
          refine join_ (σ := Value × Value × Value × Nat) 2 (tb_ 11 511) (fun s_ => [(96, .agg #[.int .i64 t162, .int .i64 t163, s_.1]), (98, .agg #[.int .i64 t167, .int .i64 t168, s_.2.1]), (99, .tuple #[.agg #[.int .i64 t172, .int .i64 t173, s_.2.2.1], .int .i64 t177]), (15, .pointer (some ⟨s_.2.2.2, 0, none⟩)), (94, .tuple #[.agg #[.int .i64 t172, .int .i64 t173, s_.2.2.1], .int .i64 t177]), (100, .agg #[.int .i64 t172, .int .i64 t173, s_.2.2.1]), (101, .int .i64 t177)]) (fun s_ w' => (w'.cell? ⟨gb101, 0, none⟩ = some (.int .i64 a0_0) ∧ w'.cell? ⟨gb101, 1, none⟩ = some (.int .i64 a0_1) ∧ w'.cell? ⟨gb101, 2, none⟩ = some (.slice A0_2 l0_2.length c0_2) ∧ w'.cell? ⟨gb102, 0, none⟩ = some (.int .i64 a1_0) ∧ w'.cell? ⟨gb102, 1, none⟩ = some (.int .i64 a1_1) ∧ w'.cell? ⟨gb102, 2, none⟩ = some (.slice A1_2 l1_2.length c1_2)) ∧ (Kd.S (Kd.slice 2 (Kd.int .i64)) 25 w' w.heap.size (fun k_ => some k_ ≠ (v113 : Value).ownBlock ∧ some k_ ≠ (.slice Ao71 t117.length co71 : Value).ownBlock ∧ some k_ ≠ (.slice Ao82 t124.length co82 : Value).ownBlock ∧ some k_ ≠ (.slice Ao93 t130.length co93 : Value).ownBlock ∧ some k_ ≠ (.slice Ao104 t136.length co104 : Value).ownBlock ∧ some k_ ≠ (.slice Ao110 t144.length co110 : Value).ownBlock ∧ some k_ ≠ (.slice Ao115 t150.length co115 : Value).ownBlock ∧ some k_ ≠ (s_.1 : Value).ownBlock ∧ some k_ ≠ (s_.2.1 : Value).ownBlock ∧ some k_ ≠ (s_.2.2.1 : Value).ownBlock ∧ k_ < nan76 ∧ k_ < nan86 ∧ k_ < nan96 ∧ k_ < nan109 ∧ k_ < nan114) v108 t107) ∧ (Kd.S (Kd.slice 2 (Kd.int .i64)) 25 w' w.heap.size (fun k_ => some k_ ≠ (v108 : Value).ownBlock ∧ some k_ ≠ (.slice Ao71 t117.length co71 : Value).ownBlock ∧ some k_ ≠ (.slice Ao82 t124.length co82 : Value).ownBlock ∧ some k_ ≠ (.slice Ao93 t130.length co93 : Value).ownBlock ∧ some k_ ≠ (.slice Ao104 t136.length co104 : Value).ownBlock ∧ some k_ ≠ (.slice Ao110 t144.length co110 : Value).ownBlock ∧ some k_ ≠ (.slice Ao115 t150.length co115 : Value).ownBlock ∧ some k_ ≠ (s_.1 : Value).ownBlock ∧ some k_ ≠ (s_.2.1 : Value).ownBlock ∧ some k_ ≠ (s_.2.2.1 : Value).ownBlock ∧ k_ < nan76 ∧ k_ < nan86 ∧ k_ < nan96 ∧ k_ < nan109 ∧ k_ < nan114) v113 t112) ∧ (Kd.S (Kd.slice 2 (Kd.int .i64)) 25 w' w.heap.size (fun k_ => some k_ ≠ (v108 : Value).ownBlock ∧ some k_ ≠ (v113 : Value).ownBlock ∧ some k_ ≠ (.slice Ao82 t124.length co82 : Value).ownBlock ∧ some k_ ≠ (.slice Ao93 t130.length co93 : Value).ownBlock ∧ some k_ ≠ (.slice Ao104 t136.length co104 : Value).ownBlock ∧ some k_ ≠ (.slice Ao110 t144.length co110 : Value).ownBlock ∧ some k_ ≠ (.slice Ao115 t150.length co115 : Value).ownBlock ∧ some k_ ≠ (s_.1 : Value).ownBlock ∧ some k_ ≠ (s_.2.1 : Value).ownBlock ∧ some k_ ≠ (s_.2.2.1 : Value).ownBlock ∧ k_ < nan76 ∧ k_ < nan86 ∧ k_ < nan96 ∧ k_ < nan109 ∧ k_ < nan114) (.slice Ao71 t117.length co71) t117) ∧ (Kd.S (Kd.slice 2 (Kd.int .i64)) 25 w' w.heap.size (fun k_ => some k_ ≠ (v108 : Value).ownBlock ∧ some k_ ≠ (v113 : Value).ownBlock ∧ some k_ ≠ (.slice Ao71 t117.length co71 : Value).ownBlock ∧ some k_ ≠ (.slice Ao93 t130.length co93 : Value).ownBlock ∧ some k_ ≠ (.slice Ao104 t136.length co104 : Value).ownBlock ∧ some k_ ≠ (.slice Ao110 t144.length co110 : Value).ownBlock ∧ some k_ ≠ (.slice Ao115 t150.length co115 : Value).ownBlock ∧ some k_ ≠ (s_.1 : Value).ownBlock ∧ some k_ ≠ (s_.2.1 : Value).ownBlock ∧ some k_ ≠ (s_.2.2.1 : Value).ownBlock ∧ nan76 ≤ k_ ∧ k_ < nan86 ∧ k_ < nan96 ∧ k_ < nan109 ∧ k_ < nan114) (.slice Ao82 t124.length co82) t155) ∧ (Kd.S (Kd.slice 2 (Kd.int .i64)) 25 w' w.heap.size (fun k_ => some k_ ≠ (v108 : Value).ownBlock ∧ some k_ ≠ (v113 : Value).ownBlock ∧ some k_ ≠ (.slice Ao71 t117.length co71 : Value).ownBlock ∧ some k_ ≠ (.slice Ao82 t124.length co82 : Value).ownBlock ∧ some k_ ≠ (.slice Ao104 t136.length co104 : Value).ownBlock ∧ some k_ ≠ (.slice Ao110 t144.length co110 : Value).ownBlock ∧ some k_ ≠ (.slice Ao115 t150.length co115 : Value).ownBlock ∧ some k_ ≠ (s_.1 : Value).ownBlock ∧ some k_ ≠ (s_.2.1 : Value).ownBlock ∧ some k_ ≠ (s_.2.2.1 : Value).ownBlock ∧ nan86 ≤ k_ ∧ k_ < nan96 ∧ k_ < nan109 ∧ k_ < nan114) (.slice Ao93 t130.length co93) t157) ∧ (Kd.S (Kd.slice 2 (Kd.int .i64)) 25 w' w.heap.size (fun k_ => some k_ ≠ (v108 : Value).ownBlock ∧ some k_ ≠ (v113 : Value).ownBlock ∧ some k_ ≠ (.slice Ao71 t117.length co71 : Value).ownBlock ∧ some k_ ≠ (.slice Ao82 t124.length co82 : Value).ownBlock ∧ some k_ ≠ (.slice Ao93 t130.length co93 : Value).ownBlock ∧ some k_ ≠ (.slice Ao110 t144.length co110 : Value).ownBlock ∧ some k_ ≠ (.slice Ao115 t150.length co115 : Value).ownBlock ∧ some k_ ≠ (s_.1 : Value).ownBlock ∧ some k_ ≠ (s_.2.1 : Value).ownBlock ∧ some k_ ≠ (s_.2.2.1 : Value).ownBlock ∧ nan96 ≤ k_ ∧ k_ < nan109 ∧ k_ < nan114) (.slice Ao104 t136.length co104) t160) ∧ (Kd.S (Kd.slice 2 (Kd.int .i64)) 25 w' w.heap.size (fun k_ => some k_ ≠ (v108 : Value).ownBlock ∧ some k_ ≠ (v113 : Value).ownBlock ∧ some k_ ≠ (.slice Ao71 t117.length co71 : Value).ownBlock ∧ some k_ ≠ (.slice Ao82 t124.length co82 : Value).ownBlock ∧ some k_ ≠ (.slice Ao93 t130.length co93 : Value).ownBlock ∧ some k_ ≠ (.slice Ao104 t136.length co104 : Value).ownBlock ∧ some k_ ≠ (.slice Ao115 t150.length co115 : Value).ownBlock ∧ some k_ ≠ (s_.1 : Value).ownBlock ∧ some k_ ≠ (s_.2.1 : Value).ownBlock ∧ some k_ ≠ (s_.2.2.1 : Value).ownBlock ∧ nan109 ≤ k_ ∧ k_ < nan114) (.slice Ao110 t144.length co110) t144) ∧ (Kd.S (Kd.slice 2 (Kd.int .i64)) 25 w' w.heap.size (fun k_ => some k_ ≠ (v108 : Value).ownBlock ∧ some k_ ≠ (v113 : Value).ownBlock ∧ some k_ ≠ (.slice Ao71 t117.length co71 : Value).ownBlock ∧ some k_ ≠ (.slice Ao82 t124.length co82 : Value).ownBlock ∧ some k_ ≠ (.slice Ao93 t130.length co93 : Value).ownBlock ∧ some k_ ≠ (.slice Ao104 t136.length co104 : Value).ownBlock ∧ some k_ ≠ (.slice Ao110 t144.length co110 : Value).ownBlock ∧ some k_ ≠ (s_.1 : Value).ownBlock ∧ some k_ ≠ (s_.2.1 : Value).ownBlock ∧ some k_ ≠ (s_.2.2.1 : Value).ownBlock ∧ nan114 ≤ k_) (.slice Ao115 t150.length co115) t150) ∧ (Kd.S (Kd.slice 2 (Kd.int .i64)) 25 w' w.heap.size (fun k_ => some k_ ≠ (v108 : Value).ownBlock ∧ some k_ ≠ (v113 : Value).ownBlock ∧ some k_ ≠ (.slice Ao71 t117.length co71 : Value).ownBlock ∧ some k_ ≠ (.slice Ao82 t124.length co82 : Value).ownBlock ∧ some k_ ≠ (.slice Ao93 t130.length co93 : Value).ownBlock ∧ some k_ ≠ (.slice Ao104 t136.length co104 : Value).ownBlock ∧ some k_ ≠ (.slice Ao110 t144.length co110 : Value).ownBlock ∧ some k_ ≠ (.slice Ao115 t150.length co115 : Value).ownBlock ∧ some k_ ≠ (s_.2.1 : Value).ownBlock ∧ some k_ ≠ (s_.2.2.1 : Value).ownBlock) s_.1 t164) ∧ (Kd.S (Kd.slice 2 (Kd.int .i64)) 25 w' w.heap.size (fun k_ => some k_ ≠ (v108 : Value).ownBlock ∧ some k_ ≠ (v113 : Value).ownBlock ∧ some k_ ≠ (.slice Ao71 t117.length co71 : Value).ownBlock ∧ some k_ ≠ (.slice Ao82 t124.length co82 : Value).ownBlock ∧ some k_ ≠ (.slice Ao93 t130.length co93 : Value).ownBlock ∧ some k_ ≠ (.slice Ao104 t136.length co104 : Value).ownBlock ∧ some k_ ≠ (.slice Ao110 t144.length co110 : Value).ownBlock ∧ some k_ ≠ (.slice Ao115 t150.length co115 : Value).ownBlock ∧ some k_ ≠ (s_.1 : Value).ownBlock ∧ some k_ ≠ (s_.2.2.1 : Value).ownBlock) s_.2.1 t169) ∧ (Kd.S (Kd.slice 2 (Kd.int .i64)) 25 w' w.heap.size (fun k_ => some k_ ≠ (v108 : Value).ownBlock ∧ some k_ ≠ (v113 : Value).ownBlock ∧ some k_ ≠ (.slice Ao71 t117.length co71 : Value).ownBlock ∧ some k_ ≠ (.slice Ao82 t124.length co82 : Value).ownBlock ∧ some k_ ≠ (.slice Ao93 t130.length co93 : Value).ownBlock ∧ some k_ ≠ (.slice Ao104 t136.length co104 : Value).ownBlock ∧ some k_ ≠ (.slice Ao110 t144.length co110 : Value).ownBlock ∧ some k_ ≠ (.slice Ao115 t150.length co115 : Value).ownBlock ∧ some k_ ≠ (s_.1 : Value).ownBlock ∧ some k_ ≠ (s_.2.1 : Value).ownBlock) s_.2.2.1 t174) ∧ (w'.heap[gb101]? = some (.cells #[.int .i64 a0_0, .int .i64 a0_1, .slice A0_2 l0_2.length c0_2] 24 (0, 0))) ∧ (w'.heap[gb102]? = some (.cells #[.int .i64 a1_0, .int .i64 a1_1, .slice A1_2 l1_2.length c1_2] 24 (0, 0))) ∧ (w'.heap[gb121]? = some (.cells #[.int .i64 t115, .int .i64 t116, .slice Ao71 t117.length co71] 29 (0, 0))) ∧ (w'.heap[gb127]? = some (.cells #[.int .i64 t122, .int .i64 t123, .slice Ao82 t124.length co82] 29 (0, 0))) ∧ (w'.heap[gb133]? = some (.cells #[.int .i64 t128, .int .i64 t129, .slice Ao93 t130.length co93] 29 (0, 0))) ∧ (w'.heap[gb140]? = some (.cells #[.int .i64 t134, .int .i64 t135, .slice Ao104 t136.length co104] 29 (0, 0))) ∧ (w'.heap[s_.2.2.2]? = some (.cells #[.int .i64 0, .int .i64 0, .slice none 0 0] 29 (0, 0))) ∧ (w.heap.size ≤ s_.2.2.2) ∧ (w.heap.size ≤ s_.2.2.2) ∧ (gb101 ≠ s_.2.2.2) ∧ (s_.2.2.2 ≠ gb101) ∧ (gb102 ≠ s_.2.2.2) ∧ (s_.2.2.2 ≠ gb102) ∧ (gb121 ≠ s_.2.2.2) ∧ (s_.2.2.2 ≠ gb121) ∧ (gb127 ≠ s_.2.2.2) ∧ (s_.2.2.2 ≠ gb127) ∧ (gb133 ≠ s_.2.2.2) ∧ (s_.2.2.2 ≠ gb133) ∧ (gb140 ≠ s_.2.2.2) ∧ (s_.2.2.2 ≠ gb140) ∧ (Below w.heap.size w w')) ?_ ?_
          rotate_left
          ·intro hCont
           refine two_ (i := 1) (j := 8) (Ni := some 96) (Nj := some 15) (tb_ 11 7) (tb_ 11 261) rfl rfl rfl rfl (two_of HT_.out (by kernel_rfl)) (by decide) (by decide) (fun K hK => ?_) (fun K hK => ?_)
           ·skip
            refine GO_ Try.func13 #[.agg #[.int .i64 a0_0, .int .i64 a0_1, .slice A0_2 l0_2.length c0_2]] (h := ?_)
            with_reducible refine (z13.calls k a0_0 a0_1 _ _ l0_2 t162 t163 t164 _ ?side1 ?side2 A43.out).mono ?_
            (case side1 => exact KC_ (Kd.C_below HR0_2.out HB.out))
            (case side2 => exact HC0_2.out)
            rintro e w129 ⟨v165, rfl, ho0, hb⟩
            refine ⟨_, rfl, ?_⟩
            obtain ⟨nan130, hnan130⟩ := Kd.size_letter hb
            have HO166 := Zz.mk (Kd.S_lower (Kd.S_geN (Kd.S_new' (Kd.S_new' (Kd.S_new' (Kd.S_new' (Kd.S_new' (Kd.S_new' (Kd.S_new' (Kd.S_new' ho0 (Kd.S_lt (KS_ HO109.out))) (Kd.S_lt (KS_ HO114.out))) (Kd.S_lt (KS_ HO119.out))) (Kd.S_lt (KS_ HO126.out))) (Kd.S_lt (KS_ HO132.out))) (Kd.S_lt (KS_ HO138.out))) (Kd.S_lt (KS_ HO146.out))) (Kd.S_lt (KS_ HO152.out))) hnan130) (bS_ (Bw6_ HB.out GE101.out GE102.out GE121.out GE127.out GE133.out GE140.out)))
            replace HO109 := Zz.mk (Kd.S_told (Kd.S_oldN (KS_ HO109.out) hb hnan130) (Kd.S_baseN ho0 hnan130))
            replace HO114 := Zz.mk (Kd.S_told (Kd.S_oldN (KS_ HO114.out) hb hnan130) (Kd.S_baseN ho0 hnan130))
            replace HO119 := Zz.mk (Kd.S_told (Kd.S_oldN (KS_ HO119.out) hb hnan130) (Kd.S_baseN ho0 hnan130))
            replace HO126 := Zz.mk (Kd.S_told (Kd.S_oldN (KS_ HO126.out) hb hnan130) (Kd.S_baseN ho0 hnan130))
            replace HO132 := Zz.mk (Kd.S_told (Kd.S_oldN (KS_ HO132.out) hb hnan130) (Kd.S_baseN ho0 hnan130))
            replace HO138 := Zz.mk (Kd.S_told (Kd.S_oldN (KS_ HO138.out) hb hnan130) (Kd.S_baseN ho0 hnan130))
            replace HO146 := Zz.mk (Kd.S_told (Kd.S_oldN (KS_ HO146.out) hb hnan130) (Kd.S_baseN ho0 hnan130))
            replace HO152 := Zz.mk (Kd.S_told (Kd.S_oldN (KS_ HO152.out) hb hnan130) (Kd.S_baseN ho0 hnan130))
            replace BK101 := Zz.mk (bB_ (g := gb101) (o := .cells #[.int .i64 a0_0, .int .i64 a0_1, .slice A0_2 l0_2.length c0_2] 24 (0, 0)) (KB_ BK101.out) hb)
            replace BK102 := Zz.mk (bB_ (g := gb102) (o := .cells #[.int .i64 a1_0, .int .i64 a1_1, .slice A1_2 l1_2.length c1_2] 24 (0, 0)) (KB_ BK102.out) hb)
            replace BK121 := Zz.mk (bB_ (g := gb121) (o := .cells #[.int .i64 t115, .int .i64 t116, .slice Ao71 t117.length co71] 29 (0, 0)) (KB_ BK121.out) hb)
            replace BK127 := Zz.mk (bB_ (g := gb127) (o := .cells #[.int .i64 t122, .int .i64 t123, .slice Ao82 t124.length co82] 29 (0, 0)) (KB_ BK127.out) hb)
            replace BK133 := Zz.mk (bB_ (g := gb133) (o := .cells #[.int .i64 t128, .int .i64 t129, .slice Ao93 t130.length co93] 29 (0, 0)) (KB_ BK133.out) hb)
            replace BK140 := Zz.mk (bB_ (g := gb140) (o := .cells #[.int .i64 t134, .int .i64 t135, .slice Ao104 t136.length co104] 29 (0, 0)) (KB_ BK140.out) hb)
            replace HB := Zz.mk (bT_ (Bw6_ HB.out GE101.out GE102.out GE121.out GE127.out GE133.out GE140.out) hb)
            (try clear hb);(try clear hb2);(try clear hk);(try clear hi);(try clear ho0)
            refine hK.out _ _ ⟨(bC_ BK101.out 0).trans rfl, (bC_ BK101.out 1).trans rfl, (bC_ BK101.out 2).trans rfl, (bC_ BK102.out 0).trans rfl, (bC_ BK102.out 1).trans rfl, (bC_ BK102.out 2).trans rfl⟩ (fun hHeld => ?_)
            clear hK K
            refine NM_ (N := (some 96)) (h := ?_)
            refine two_ (i := 3) (j := 8) (Ni := some 98) (Nj := some 15) (tb_ 11 15) (tb_ 11 263) rfl rfl rfl rfl (two_of HT_.out (by kernel_rfl)) (by decide) (by decide) (fun K hK => ?_) (fun K hK => ?_)
            ·skip
             refine GO_ Try.func13 #[.agg #[.int .i64 a1_0, .int .i64 a1_1, .slice A1_2 l1_2.length c1_2]] (h := ?_)
             with_reducible refine (z13.calls k a1_0 a1_1 _ _ l1_2 t167 t168 t169 _ ?side1 ?side2 A44.out).mono ?_
             (case side1 => exact KC_ (Kd.C_below HR1_2.out HB.out))
             (case side2 => exact HC1_2.out)
             rintro e w131 ⟨v170, rfl, ho0, hb⟩
             refine ⟨_, rfl, ?_⟩
             obtain ⟨nan132, hnan132⟩ := Kd.size_letter hb
             have HO171 := Zz.mk (Kd.S_lower (Kd.S_geN (Kd.S_new' (Kd.S_new' (Kd.S_new' (Kd.S_new' (Kd.S_new' (Kd.S_new' (Kd.S_new' (Kd.S_new' (Kd.S_new' ho0 (Kd.S_lt (KS_ HO109.out))) (Kd.S_lt (KS_ HO114.out))) (Kd.S_lt (KS_ HO119.out))) (Kd.S_lt (KS_ HO126.out))) (Kd.S_lt (KS_ HO132.out))) (Kd.S_lt (KS_ HO138.out))) (Kd.S_lt (KS_ HO146.out))) (Kd.S_lt (KS_ HO152.out))) (Kd.S_lt (KS_ HO166.out))) hnan132) (bS_ (Bw6_ HB.out GE101.out GE102.out GE121.out GE127.out GE133.out GE140.out)))
             replace HO109 := Zz.mk (Kd.S_told (Kd.S_oldN (KS_ HO109.out) hb hnan132) (Kd.S_baseN ho0 hnan132))
             replace HO114 := Zz.mk (Kd.S_told (Kd.S_oldN (KS_ HO114.out) hb hnan132) (Kd.S_baseN ho0 hnan132))
             replace HO119 := Zz.mk (Kd.S_told (Kd.S_oldN (KS_ HO119.out) hb hnan132) (Kd.S_baseN ho0 hnan132))
             replace HO126 := Zz.mk (Kd.S_told (Kd.S_oldN (KS_ HO126.out) hb hnan132) (Kd.S_baseN ho0 hnan132))
             replace HO132 := Zz.mk (Kd.S_told (Kd.S_oldN (KS_ HO132.out) hb hnan132) (Kd.S_baseN ho0 hnan132))
             replace HO138 := Zz.mk (Kd.S_told (Kd.S_oldN (KS_ HO138.out) hb hnan132) (Kd.S_baseN ho0 hnan132))
             replace HO146 := Zz.mk (Kd.S_told (Kd.S_oldN (KS_ HO146.out) hb hnan132) (Kd.S_baseN ho0 hnan132))
             replace HO152 := Zz.mk (Kd.S_told (Kd.S_oldN (KS_ HO152.out) hb hnan132) (Kd.S_baseN ho0 hnan132))
             replace HO166 := Zz.mk (Kd.S_told (Kd.S_oldN (KS_ HO166.out) hb hnan132) (Kd.S_baseN ho0 hnan132))
             replace BK101 := Zz.mk (bB_ (g := gb101) (o := .cells #[.int .i64 a0_0, .int .i64 a0_1, .slice A0_2 l0_2.length c0_2] 24 (0, 0)) (KB_ BK101.out) hb)
             replace BK102 := Zz.mk (bB_ (g := gb102) (o := .cells #[.int .i64 a1_0, .int .i64 a1_1, .slice A1_2 l1_2.length c1_2] 24 (0, 0)) (KB_ BK102.out) hb)
             replace BK121 := Zz.mk (bB_ (g := gb121) (o := .cells #[.int .i64 t115, .int .i64 t116, .slice Ao71 t117.length co71] 29 (0, 0)) (KB_ BK121.out) hb)
             replace BK127 := Zz.mk (bB_ (g := gb127) (o := .cells #[.int .i64 t122, .int .i64 t123, .slice Ao82 t124.length co82] 29 (0, 0)) (KB_ BK127.out) hb)
             replace BK133 := Zz.mk (bB_ (g := gb133) (o := .cells #[.int .i64 t128, .int .i64 t129, .slice Ao93 t130.length co93] 29 (0, 0)) (KB_ BK133.out) hb)
             replace BK140 := Zz.mk (bB_ (g := gb140) (o := .cells #[.int .i64 t134, .int .i64 t135, .slice Ao104 t136.length co104] 29 (0, 0)) (KB_ BK140.out) hb)
             replace HB := Zz.mk (bT_ (Bw6_ HB.out GE101.out GE102.out GE121.out GE127.out GE133.out GE140.out) hb)
             (try clear hb);(try clear hb2);(try clear hk);(try clear hi);(try clear ho0)
             obtain ⟨Ao133, co133, eo133⟩ := Kd.S_slice HO166.out
             (first | subst eo133 | (injection eo133 with f1_ f2_ f3_; have f4_ := f1_.symm; have f5_ := f3_.symm; clear f1_ f2_ f3_; subst f4_; subst f5_))
             obtain ⟨Ao134, co134, eo134⟩ := Kd.S_slice HO171.out
             (first | subst eo134 | (injection eo134 with f1_ f2_ f3_; have f4_ := f1_.symm; have f5_ := f3_.symm; clear f1_ f2_ f3_; subst f4_; subst f5_))
             refine hK.out _ _ ⟨(bC_ BK101.out 0).trans rfl, (bC_ BK101.out 1).trans rfl, (bC_ BK101.out 2).trans rfl, (bC_ BK102.out 0).trans rfl, (bC_ BK102.out 1).trans rfl, (bC_ BK102.out 2).trans rfl⟩ (fun hHeld => ?_)
             clear hK K
             refine NM_ (N := (some 98)) (h := ?_)
             refine two_ (i := 4) (j := 8) (Ni := some 99) (Nj := some 15) (tb_ 11 31) (tb_ 11 271) rfl rfl rfl rfl (two_of HT_.out (by kernel_rfl)) (by decide) (by decide) (fun K hK => ?_) (fun K hK => ?_)
             ·skip
              refine GO_ Try.func22 #[.agg #[.int .i64 t162, .int .i64 t163, .slice Ao133 t164.length co133], .agg #[.int .i64 t167, .int .i64 t168, .slice Ao134 t169.length co134]] (h := ?_)
              with_reducible refine (z22.calls k t162 t163 _ _ t164 t167 t168 _ _ t169 t172 t173 t174 t177 _ ?side1 ?side2 ?side3 ?side4 A45.out).mono ?_
              (case side1 => exact KC_ (Kd.S_reads' HO166.out).2.2)
              (case side2 => exact (Kd.S_reads' HO166.out).2.1)
              (case side3 => exact KC_ (Kd.S_reads' HO171.out).2.2)
              (case side4 => exact (Kd.S_reads' HO171.out).2.1)
              rintro e w135 ⟨v175, rfl, ho0, hb⟩
              refine ⟨_, rfl, ?_⟩
              obtain ⟨nan136, hnan136⟩ := Kd.size_letter hb
              have HO176 := Zz.mk (Kd.S_lower (Kd.S_geN (Kd.S_new' (Kd.S_new' (Kd.S_new' (Kd.S_new' (Kd.S_new' (Kd.S_new' (Kd.S_new' (Kd.S_new' (Kd.S_new' (Kd.S_new' ho0 (Kd.S_lt (KS_ HO109.out))) (Kd.S_lt (KS_ HO114.out))) (Kd.S_lt (KS_ HO119.out))) (Kd.S_lt (KS_ HO126.out))) (Kd.S_lt (KS_ HO132.out))) (Kd.S_lt (KS_ HO138.out))) (Kd.S_lt (KS_ HO146.out))) (Kd.S_lt (KS_ HO152.out))) (Kd.S_lt (KS_ HO166.out))) (Kd.S_lt (KS_ HO171.out))) hnan136) (bS_ (Bw6_ HB.out GE101.out GE102.out GE121.out GE127.out GE133.out GE140.out)))
              replace HO109 := Zz.mk (Kd.S_told (Kd.S_oldN (KS_ HO109.out) hb hnan136) (Kd.S_baseN ho0 hnan136))
              replace HO114 := Zz.mk (Kd.S_told (Kd.S_oldN (KS_ HO114.out) hb hnan136) (Kd.S_baseN ho0 hnan136))
              replace HO119 := Zz.mk (Kd.S_told (Kd.S_oldN (KS_ HO119.out) hb hnan136) (Kd.S_baseN ho0 hnan136))
              replace HO126 := Zz.mk (Kd.S_told (Kd.S_oldN (KS_ HO126.out) hb hnan136) (Kd.S_baseN ho0 hnan136))
              replace HO132 := Zz.mk (Kd.S_told (Kd.S_oldN (KS_ HO132.out) hb hnan136) (Kd.S_baseN ho0 hnan136))
              replace HO138 := Zz.mk (Kd.S_told (Kd.S_oldN (KS_ HO138.out) hb hnan136) (Kd.S_baseN ho0 hnan136))
              replace HO146 := Zz.mk (Kd.S_told (Kd.S_oldN (KS_ HO146.out) hb hnan136) (Kd.S_baseN ho0 hnan136))
              replace HO152 := Zz.mk (Kd.S_told (Kd.S_oldN (KS_ HO152.out) hb hnan136) (Kd.S_baseN ho0 hnan136))
              replace HO166 := Zz.mk (Kd.S_told (Kd.S_oldN (KS_ HO166.out) hb hnan136) (Kd.S_baseN ho0 hnan136))
              replace HO171 := Zz.mk (Kd.S_told (Kd.S_oldN (KS_ HO171.out) hb hnan136) (Kd.S_baseN ho0 hnan136))
              replace BK101 := Zz.mk (bB_ (g := gb101) (o := .cells #[.int .i64 a0_0, .int .i64 a0_1, .slice A0_2 l0_2.length c0_2] 24 (0, 0)) (KB_ BK101.out) hb)
              replace BK102 := Zz.mk (bB_ (g := gb102) (o := .cells #[.int .i64 a1_0, .int .i64 a1_1, .slice A1_2 l1_2.length c1_2] 24 (0, 0)) (KB_ BK102.out) hb)
              replace BK121 := Zz.mk (bB_ (g := gb121) (o := .cells #[.int .i64 t115, .int .i64 t116, .slice Ao71 t117.length co71] 29 (0, 0)) (KB_ BK121.out) hb)
              replace BK127 := Zz.mk (bB_ (g := gb127) (o := .cells #[.int .i64 t122, .int .i64 t123, .slice Ao82 t124.length co82] 29 (0, 0)) (KB_ BK127.out) hb)
              replace BK133 := Zz.mk (bB_ (g := gb133) (o := .cells #[.int .i64 t128, .int .i64 t129, .slice Ao93 t130.length co93] 29 (0, 0)) (KB_ BK133.out) hb)
              replace BK140 := Zz.mk (bB_ (g := gb140) (o := .cells #[.int .i64 t134, .int .i64 t135, .slice Ao104 t136.length co104] 29 (0, 0)) (KB_ BK140.out) hb)
              replace HB := Zz.mk (bT_ (Bw6_ HB.out GE101.out GE102.out GE121.out GE127.out GE133.out GE140.out) hb)
              (try clear hb);(try clear hb2);(try clear hk);(try clear hi);(try clear ho0)
              refine hK.out _ _ ⟨(bC_ BK101.out 0).trans rfl, (bC_ BK101.out 1).trans rfl, (bC_ BK101.out 2).trans rfl, (bC_ BK102.out 0).trans rfl, (bC_ BK102.out 1).trans rfl, (bC_ BK102.out 2).trans rfl⟩ (fun hHeld => ?_)
              clear hK K
              refine NM_ (N := (some 99)) (h := ?_)
              refine PX_ 5 94 (tb_ 11 63) HT_ rfl rfl ?_
              refine PX_ 6 100 (tb_ 11 127) HT_ rfl rfl ?_
              refine PX_ 7 101 (tb_ 11 255) HT_ rfl rfl ?_
              refine one_ (i := 8) (N := some 15) (tb_ 11 511) rfl rfl (one_of HT_.out (by kernel_rfl)) (by decide) (fun K hK => ?_)
              refine box_step ?hg (N := 15) ?hd (cs := #[.int .i64 0, .int .i64 0, .slice none 0 0]) (t := 29) ?hr ?_; (case hd => rfl); (case hg => rfl); (case hr => first | (go_simp; done) | (go_simp; rfl))
              intro gb178 hg w137 hbox hb
              have BK178 := Zz.mk (hbox)
              have GW178 := Zz.mk ((by rw [hg]; exact (bS_ (Bw6_ HB.out GE101.out GE102.out GE121.out GE127.out GE133.out GE140.out)) : w.heap.size ≤ gb178))
              have GE178 := GW178
              have NB101_178 := Zz.mk ((by rw [hg]; exact Nat.ne_of_lt (blk_lt (g := gb101) (o := .cells #[.int .i64 a0_0, .int .i64 a0_1, .slice A0_2 l0_2.length c0_2] 24 (0, 0)) (KB_ BK101.out)) : gb101 ≠ gb178))
              have NB178_101 := Zz.mk NB101_178.out.symm
              have NB102_178 := Zz.mk ((by rw [hg]; exact Nat.ne_of_lt (blk_lt (g := gb102) (o := .cells #[.int .i64 a1_0, .int .i64 a1_1, .slice A1_2 l1_2.length c1_2] 24 (0, 0)) (KB_ BK102.out)) : gb102 ≠ gb178))
              have NB178_102 := Zz.mk NB102_178.out.symm
              have NB121_178 := Zz.mk ((by rw [hg]; exact Nat.ne_of_lt (blk_lt (g := gb121) (o := .cells #[.int .i64 t115, .int .i64 t116, .slice Ao71 t117.length co71] 29 (0, 0)) (KB_ BK121.out)) : gb121 ≠ gb178))
              have NB178_121 := Zz.mk NB121_178.out.symm
              have NB127_178 := Zz.mk ((by rw [hg]; exact Nat.ne_of_lt (blk_lt (g := gb127) (o := .cells #[.int .i64 t122, .int .i64 t123, .slice Ao82 t124.length co82] 29 (0, 0)) (KB_ BK127.out)) : gb127 ≠ gb178))
              have NB178_127 := Zz.mk NB127_178.out.symm
              have NB133_178 := Zz.mk ((by rw [hg]; exact Nat.ne_of_lt (blk_lt (g := gb133) (o := .cells #[.int .i64 t128, .int .i64 t129, .slice Ao93 t130.length co93] 29 (0, 0)) (KB_ BK133.out)) : gb133 ≠ gb178))
              have NB178_133 := Zz.mk NB133_178.out.symm
              have NB140_178 := Zz.mk ((by rw [hg]; exact Nat.ne_of_lt (blk_lt (g := gb140) (o := .cells #[.int .i64 t134, .int .i64 t135, .slice Ao104 t136.length co104] 29 (0, 0)) (KB_ BK140.out)) : gb140 ≠ gb178))
              have NB178_140 := Zz.mk NB140_178.out.symm
              replace HO109 := Zz.mk (Kd.S_below (KS_ HO109.out) hb)
              replace HO114 := Zz.mk (Kd.S_below (KS_ HO114.out) hb)
              replace HO119 := Zz.mk (Kd.S_below (KS_ HO119.out) hb)
              replace HO126 := Zz.mk (Kd.S_below (KS_ HO126.out) hb)
              replace HO132 := Zz.mk (Kd.S_below (KS_ HO132.out) hb)
              replace HO138 := Zz.mk (Kd.S_below (KS_ HO138.out) hb)
              replace HO146 := Zz.mk (Kd.S_below (KS_ HO146.out) hb)
              replace HO152 := Zz.mk (Kd.S_below (KS_ HO152.out) hb)
              replace HO166 := Zz.mk (Kd.S_below (KS_ HO166.out) hb)
              replace HO171 := Zz.mk (Kd.S_below (KS_ HO171.out) hb)
              replace HO176 := Zz.mk (Kd.S_below (KS_ HO176.out) hb)
              replace BK101 := Zz.mk (bB_ (g := gb101) (o := .cells #[.int .i64 a0_0, .int .i64 a0_1, .slice A0_2 l0_2.length c0_2] 24 (0, 0)) (KB_ BK101.out) hb)
              replace BK102 := Zz.mk (bB_ (g := gb102) (o := .cells #[.int .i64 a1_0, .int .i64 a1_1, .slice A1_2 l1_2.length c1_2] 24 (0, 0)) (KB_ BK102.out) hb)
              replace BK121 := Zz.mk (bB_ (g := gb121) (o := .cells #[.int .i64 t115, .int .i64 t116, .slice Ao71 t117.length co71] 29 (0, 0)) (KB_ BK121.out) hb)
              replace BK127 := Zz.mk (bB_ (g := gb127) (o := .cells #[.int .i64 t122, .int .i64 t123, .slice Ao82 t124.length co82] 29 (0, 0)) (KB_ BK127.out) hb)
              replace BK133 := Zz.mk (bB_ (g := gb133) (o := .cells #[.int .i64 t128, .int .i64 t129, .slice Ao93 t130.length co93] 29 (0, 0)) (KB_ BK133.out) hb)
              replace BK140 := Zz.mk (bB_ (g := gb140) (o := .cells #[.int .i64 t134, .int .i64 t135, .slice Ao104 t136.length co104] 29 (0, 0)) (KB_ BK140.out) hb)
              replace HB := Zz.mk (bT_ (Bw6_ HB.out GE101.out GE102.out GE121.out GE127.out GE133.out GE140.out) hb)
              clear hb hbox hg
              refine hK.out _ _ ⟨(bC_ BK101.out 0).trans rfl, (bC_ BK101.out 1).trans rfl, (bC_ BK101.out 2).trans rfl, (bC_ BK102.out 0).trans rfl, (bC_ BK102.out 1).trans rfl, (bC_ BK102.out 2).trans rfl⟩ (fun hHeld => ?_)
              clear hK K
              refine NM_ (N := (some 15)) (h := ?_)
              exact norm_ (by simp only [putAll, Act.put, List.setIfInBounds_toArray, List.set_cons_zero, List.set_cons_succ]) (hCont (.slice Ao133 t164.length co133, .slice Ao134 t169.length co134, v175, gb178) _ ⟨hHeld, (by refine SW_ ?_; exact Kd.S_mono HO109.out (fun _ hk => ⟨hk.1.1.1.1.1.1.1.1.1.1.1.1.1.1.1.1.1, ⟨hk.1.1.1.1.1.1.1.1.1.1.1.1.1.1.1.1.2, ⟨hk.1.1.1.1.1.1.1.1.1.1.1.1.1.1.1.2, ⟨hk.1.1.1.1.1.1.1.1.1.1.1.1.1.2, ⟨hk.1.1.1.1.1.1.1.1.1.1.1.2, ⟨hk.1.1.1.1.1.1.1.1.1.2, ⟨hk.1.1.1.1.1.1.1.2, ⟨hk.1.1.1.1.1.2, ⟨hk.1.1.1.2, ⟨hk.1.2, ⟨hk.1.1.1.1.1.1.1.1.1.1.1.1.1.1.2, ⟨hk.1.1.1.1.1.1.1.1.1.1.1.1.2, ⟨hk.1.1.1.1.1.1.1.1.1.1.2, ⟨hk.1.1.1.1.1.1.1.1.2, hk.1.1.1.1.1.1.2⟩⟩⟩⟩⟩⟩⟩⟩⟩⟩⟩⟩⟩⟩)), (by refine SW_ ?_; exact Kd.S_mono HO114.out (fun _ hk => ⟨hk.1.1.1.1.1.1.1.1.1.1.1.1.1.1.1.1.1, ⟨hk.1.1.1.1.1.1.1.1.1.1.1.1.1.1.1.1.2, ⟨hk.1.1.1.1.1.1.1.1.1.1.1.1.1.1.1.2, ⟨hk.1.1.1.1.1.1.1.1.1.1.1.1.1.2, ⟨hk.1.1.1.1.1.1.1.1.1.1.1.2, ⟨hk.1.1.1.1.1.1.1.1.1.2, ⟨hk.1.1.1.1.1.1.1.2, ⟨hk.1.1.1.1.1.2, ⟨hk.1.1.1.2, ⟨hk.1.2, ⟨hk.1.1.1.1.1.1.1.1.1.1.1.1.1.1.2, ⟨hk.1.1.1.1.1.1.1.1.1.1.1.1.2, ⟨hk.1.1.1.1.1.1.1.1.1.1.2, ⟨hk.1.1.1.1.1.1.1.1.2, hk.1.1.1.1.1.1.2⟩⟩⟩⟩⟩⟩⟩⟩⟩⟩⟩⟩⟩⟩)), (by refine SW_ ?_; exact Kd.S_mono HO119.out (fun _ hk => ⟨hk.1.1.1.1.1.1.1.1.1.1.1.1.1.1.1.1.1, ⟨hk.1.1.1.1.1.1.1.1.1.1.1.1.1.1.1.1.2, ⟨hk.1.1.1.1.1.1.1.1.1.1.1.1.1.1.1.2, ⟨hk.1.1.1.1.1.1.1.1.1.1.1.1.1.2, ⟨hk.1.1.1.1.1.1.1.1.1.1.1.2, ⟨hk.1.1.1.1.1.1.1.1.1.2, ⟨hk.1.1.1.1.1.1.1.2, ⟨hk.1.1.1.1.1.2, ⟨hk.1.1.1.2, ⟨hk.1.2, ⟨hk.1.1.1.1.1.1.1.1.1.1.1.1.1.1.2, ⟨hk.1.1.1.1.1.1.1.1.1.1.1.1.2, ⟨hk.1.1.1.1.1.1.1.1.1.1.2, ⟨hk.1.1.1.1.1.1.1.1.2, hk.1.1.1.1.1.1.2⟩⟩⟩⟩⟩⟩⟩⟩⟩⟩⟩⟩⟩⟩)), (by refine SW_ ?_; exact Kd.S_mono HO126.out (fun _ hk => ⟨hk.1.1.1.1.1.1.1.1.1.1.1.1.1.1.1.1.1.2, ⟨hk.1.1.1.1.1.1.1.1.1.1.1.1.1.1.1.1.2, ⟨hk.1.1.1.1.1.1.1.1.1.1.1.1.1.1.1.2, ⟨hk.1.1.1.1.1.1.1.1.1.1.1.1.1.2, ⟨hk.1.1.1.1.1.1.1.1.1.1.1.2, ⟨hk.1.1.1.1.1.1.1.1.1.2, ⟨hk.1.1.1.1.1.1.1.2, ⟨hk.1.1.1.1.1.2, ⟨hk.1.1.1.2, ⟨hk.1.2, ⟨hk.1.1.1.1.1.1.1.1.1.1.1.1.1.1.2, ⟨hk.1.1.1.1.1.1.1.1.1.1.1.1.2, ⟨hk.1.1.1.1.1.1.1.1.1.1.2, ⟨hk.1.1.1.1.1.1.1.1.2, hk.1.1.1.1.1.1.2⟩⟩⟩⟩⟩⟩⟩⟩⟩⟩⟩⟩⟩⟩)), (by refine SW_ ?_; exact Kd.S_mono HO132.out (fun _ hk => ⟨hk.1.1.1.1.1.1.1.1.1.1.1.1.1.1.1.1.2, ⟨hk.1.1.1.1.1.1.1.1.1.1.1.1.1.1.1.2, ⟨hk.1.1.1.1.1.1.1.1.1.1.1.1.1.1.2, ⟨hk.1.1.1.1.1.1.1.1.1.1.1.1.1.2, ⟨hk.1.1.1.1.1.1.1.1.1.1.1.2, ⟨hk.1.1.1.1.1.1.1.1.1.2, ⟨hk.1.1.1.1.1.1.1.2, ⟨hk.1.1.1.1.1.2, ⟨hk.1.1.1.2, ⟨hk.1.2, ⟨hk.1.1.1.1.1.1.1.1.1.1.1.1.2, ⟨hk.1.1.1.1.1.1.1.1.1.1.2, ⟨hk.1.1.1.1.1.1.1.1.2, hk.1.1.1.1.1.1.2⟩⟩⟩⟩⟩⟩⟩⟩⟩⟩⟩⟩⟩)), (by refine SW_ ?_; exact Kd.S_mono HO138.out (fun _ hk => ⟨hk.1.1.1.1.1.1.1.1.1.1.1.1.1.1.1.2, ⟨hk.1.1.1.1.1.1.1.1.1.1.1.1.1.1.2, ⟨hk.1.1.1.1.1.1.1.1.1.1.1.1.1.2, ⟨hk.1.1.1.1.1.1.1.1.1.1.1.1.2, ⟨hk.1.1.1.1.1.1.1.1.1.1.1.2, ⟨hk.1.1.1.1.1.1.1.1.1.2, ⟨hk.1.1.1.1.1.1.1.2, ⟨hk.1.1.1.1.1.2, ⟨hk.1.1.1.2, ⟨hk.1.2, ⟨hk.1.1.1.1.1.1.1.1.1.1.2, ⟨hk.1.1.1.1.1.1.1.1.2, hk.1.1.1.1.1.1.2⟩⟩⟩⟩⟩⟩⟩⟩⟩⟩⟩⟩)), (by refine SW_ ?_; exact Kd.S_mono HO146.out (fun _ hk => ⟨hk.1.1.1.1.1.1.1.1.1.1.1.1.1.1.2, ⟨hk.1.1.1.1.1.1.1.1.1.1.1.1.1.2, ⟨hk.1.1.1.1.1.1.1.1.1.1.1.1.2, ⟨hk.1.1.1.1.1.1.1.1.1.1.1.2, ⟨hk.1.1.1.1.1.1.1.1.1.1.2, ⟨hk.1.1.1.1.1.1.1.1.1.2, ⟨hk.1.1.1.1.1.1.1.2, ⟨hk.1.1.1.1.1.2, ⟨hk.1.1.1.2, ⟨hk.1.2, ⟨hk.1.1.1.1.1.1.1.1.2, hk.1.1.1.1.1.1.2⟩⟩⟩⟩⟩⟩⟩⟩⟩⟩⟩)), (by refine SW_ ?_; exact Kd.S_mono HO152.out (fun _ hk => ⟨hk.1.1.1.1.1.1.1.1.1.1.1.1.1.2, ⟨hk.1.1.1.1.1.1.1.1.1.1.1.1.2, ⟨hk.1.1.1.1.1.1.1.1.1.1.1.2, ⟨hk.1.1.1.1.1.1.1.1.1.1.2, ⟨hk.1.1.1.1.1.1.1.1.1.2, ⟨hk.1.1.1.1.1.1.1.1.2, ⟨hk.1.1.1.1.1.1.1.2, ⟨hk.1.1.1.1.1.2, ⟨hk.1.1.1.2, ⟨hk.1.2, hk.1.1.1.1.1.1.2⟩⟩⟩⟩⟩⟩⟩⟩⟩⟩)), (by refine SW_ ?_; exact Kd.S_mono HO166.out (fun _ hk => ⟨hk.1.1.1.1.1.1.1.1.1.1.1.1.2, ⟨hk.1.1.1.1.1.1.1.1.1.1.1.2, ⟨hk.1.1.1.1.1.1.1.1.1.1.2, ⟨hk.1.1.1.1.1.1.1.1.1.2, ⟨hk.1.1.1.1.1.1.1.1.2, ⟨hk.1.1.1.1.1.1.1.2, ⟨hk.1.1.1.1.1.1.2, ⟨hk.1.1.1.1.1.2, ⟨hk.1.1.1.2, hk.1.2⟩⟩⟩⟩⟩⟩⟩⟩⟩)), (by refine SW_ ?_; exact Kd.S_mono HO171.out (fun _ hk => ⟨hk.1.1.1.1.1.1.1.1.1.1.1.2, ⟨hk.1.1.1.1.1.1.1.1.1.1.2, ⟨hk.1.1.1.1.1.1.1.1.1.2, ⟨hk.1.1.1.1.1.1.1.1.2, ⟨hk.1.1.1.1.1.1.1.2, ⟨hk.1.1.1.1.1.1.2, ⟨hk.1.1.1.1.1.2, ⟨hk.1.1.1.1.2, ⟨hk.1.1.1.2, hk.1.2⟩⟩⟩⟩⟩⟩⟩⟩⟩)), (by refine SW_ ?_; exact Kd.S_mono HO176.out (fun _ hk => ⟨hk.1.1.1.1.1.1.1.1.1.1.2, ⟨hk.1.1.1.1.1.1.1.1.1.2, ⟨hk.1.1.1.1.1.1.1.1.2, ⟨hk.1.1.1.1.1.1.1.2, ⟨hk.1.1.1.1.1.1.2, ⟨hk.1.1.1.1.1.2, ⟨hk.1.1.1.1.2, ⟨hk.1.1.1.2, ⟨hk.1.1.2, hk.1.2⟩⟩⟩⟩⟩⟩⟩⟩⟩)), (KB_ BK101.out), (KB_ BK102.out), (KB_ BK121.out), (KB_ BK127.out), (KB_ BK133.out), (KB_ BK140.out), (KB_ BK178.out), GW178.out, GE178.out, NB101_178.out, NB178_101.out, NB102_178.out, NB178_102.out, NB121_178.out, NB178_121.out, NB127_178.out, NB178_127.out, NB133_178.out, NB178_133.out, NB140_178.out, NB178_140.out, (Bw7_ HB.out GE101.out GE102.out GE121.out GE127.out GE133.out GE140.out GE178.out)⟩)
             skip
             refine box_step ?hg (N := 15) ?hd (cs := #[.int .i64 0, .int .i64 0, .slice none 0 0]) (t := 29) ?hr ?_; (case hd => rfl); (case hg => rfl); (case hr => first | (go_simp; done) | (go_simp; rfl))
             intro gb178 hg w133 hbox hb
             have BK178 := Zz.mk (hbox)
             have GW178 := Zz.mk ((by rw [hg]; exact (bS_ (Bw6_ HB.out GE101.out GE102.out GE121.out GE127.out GE133.out GE140.out)) : w.heap.size ≤ gb178))
             have GE178 := GW178
             have NB101_178 := Zz.mk ((by rw [hg]; exact Nat.ne_of_lt (blk_lt (g := gb101) (o := .cells #[.int .i64 a0_0, .int .i64 a0_1, .slice A0_2 l0_2.length c0_2] 24 (0, 0)) (KB_ BK101.out)) : gb101 ≠ gb178))
             have NB178_101 := Zz.mk NB101_178.out.symm
             have NB102_178 := Zz.mk ((by rw [hg]; exact Nat.ne_of_lt (blk_lt (g := gb102) (o := .cells #[.int .i64 a1_0, .int .i64 a1_1, .slice A1_2 l1_2.length c1_2] 24 (0, 0)) (KB_ BK102.out)) : gb102 ≠ gb178))
             have NB178_102 := Zz.mk NB102_178.out.symm
             have NB121_178 := Zz.mk ((by rw [hg]; exact Nat.ne_of_lt (blk_lt (g := gb121) (o := .cells #[.int .i64 t115, .int .i64 t116, .slice Ao71 t117.length co71] 29 (0, 0)) (KB_ BK121.out)) : gb121 ≠ gb178))
             have NB178_121 := Zz.mk NB121_178.out.symm
             have NB127_178 := Zz.mk ((by rw [hg]; exact Nat.ne_of_lt (blk_lt (g := gb127) (o := .cells #[.int .i64 t122, .int .i64 t123, .slice Ao82 t124.length co82] 29 (0, 0)) (KB_ BK127.out)) : gb127 ≠ gb178))
             have NB178_127 := Zz.mk NB127_178.out.symm
             have NB133_178 := Zz.mk ((by rw [hg]; exact Nat.ne_of_lt (blk_lt (g := gb133) (o := .cells #[.int .i64 t128, .int .i64 t129, .slice Ao93 t130.length co93] 29 (0, 0)) (KB_ BK133.out)) : gb133 ≠ gb178))
             have NB178_133 := Zz.mk NB133_178.out.symm
             have NB140_178 := Zz.mk ((by rw [hg]; exact Nat.ne_of_lt (blk_lt (g := gb140) (o := .cells #[.int .i64 t134, .int .i64 t135, .slice Ao104 t136.length co104] 29 (0, 0)) (KB_ BK140.out)) : gb140 ≠ gb178))
             have NB178_140 := Zz.mk NB140_178.out.symm
             replace HO109 := Zz.mk (Kd.S_below (KS_ HO109.out) hb)
             replace HO114 := Zz.mk (Kd.S_below (KS_ HO114.out) hb)
             replace HO119 := Zz.mk (Kd.S_below (KS_ HO119.out) hb)
             replace HO126 := Zz.mk (Kd.S_below (KS_ HO126.out) hb)
             replace HO132 := Zz.mk (Kd.S_below (KS_ HO132.out) hb)
             replace HO138 := Zz.mk (Kd.S_below (KS_ HO138.out) hb)
             replace HO146 := Zz.mk (Kd.S_below (KS_ HO146.out) hb)
             replace HO152 := Zz.mk (Kd.S_below (KS_ HO152.out) hb)
             replace HO166 := Zz.mk (Kd.S_below (KS_ HO166.out) hb)
             replace HO171 := Zz.mk (Kd.S_below (KS_ HO171.out) hb)
             replace BK101 := Zz.mk (bB_ (g := gb101) (o := .cells #[.int .i64 a0_0, .int .i64 a0_1, .slice A0_2 l0_2.length c0_2] 24 (0, 0)) (KB_ BK101.out) hb)
             replace BK102 := Zz.mk (bB_ (g := gb102) (o := .cells #[.int .i64 a1_0, .int .i64 a1_1, .slice A1_2 l1_2.length c1_2] 24 (0, 0)) (KB_ BK102.out) hb)
             replace BK121 := Zz.mk (bB_ (g := gb121) (o := .cells #[.int .i64 t115, .int .i64 t116, .slice Ao71 t117.length co71] 29 (0, 0)) (KB_ BK121.out) hb)
             replace BK127 := Zz.mk (bB_ (g := gb127) (o := .cells #[.int .i64 t122, .int .i64 t123, .slice Ao82 t124.length co82] 29 (0, 0)) (KB_ BK127.out) hb)
             replace BK133 := Zz.mk (bB_ (g := gb133) (o := .cells #[.int .i64 t128, .int .i64 t129, .slice Ao93 t130.length co93] 29 (0, 0)) (KB_ BK133.out) hb)
             replace BK140 := Zz.mk (bB_ (g := gb140) (o := .cells #[.int .i64 t134, .int .i64 t135, .slice Ao104 t136.length co104] 29 (0, 0)) (KB_ BK140.out) hb)
             replace HB := Zz.mk (bT_ (Bw6_ HB.out GE101.out GE102.out GE121.out GE127.out GE133.out GE140.out) hb)
             clear hb hbox hg
             obtain ⟨Ao134, co134, eo134⟩ := Kd.S_slice HO166.out
             (first | subst eo134 | (injection eo134 with f1_ f2_ f3_; have f4_ := f1_.symm; have f5_ := f3_.symm; clear f1_ f2_ f3_; subst f4_; subst f5_))
             obtain ⟨Ao135, co135, eo135⟩ := Kd.S_slice HO171.out
             (first | subst eo135 | (injection eo135 with f1_ f2_ f3_; have f4_ := f1_.symm; have f5_ := f3_.symm; clear f1_ f2_ f3_; subst f4_; subst f5_))
             refine hK.out _ _ ⟨(bC_ BK101.out 0).trans rfl, (bC_ BK101.out 1).trans rfl, (bC_ BK101.out 2).trans rfl, (bC_ BK102.out 0).trans rfl, (bC_ BK102.out 1).trans rfl, (bC_ BK102.out 2).trans rfl⟩ (fun hHeld => ?_)
             clear hK K
             refine NM_ (N := (some 15)) (h := ?_)
             refine one_ (i := 4) (N := some 99) (tb_ 11 287) rfl rfl (one_of HT_.out (by kernel_rfl)) (by decide) (fun K hK => ?_)
             refine GO_ Try.func22 #[.agg #[.int .i64 t162, .int .i64 t163, .slice Ao134 t164.length co134], .agg #[.int .i64 t167, .int .i64 t168, .slice Ao135 t169.length co135]] (h := ?_)
             with_reducible refine (z22.calls k t162 t163 _ _ t164 t167 t168 _ _ t169 t172 t173 t174 t177 _ ?side1 ?side2 ?side3 ?side4 A45.out).mono ?_
             (case side1 => exact KC_ (Kd.S_reads' HO166.out).2.2)
             (case side2 => exact (Kd.S_reads' HO166.out).2.1)
             (case side3 => exact KC_ (Kd.S_reads' HO171.out).2.2)
             (case side4 => exact (Kd.S_reads' HO171.out).2.1)
             rintro e w136 ⟨v175, rfl, ho0, hb⟩
             refine ⟨_, rfl, ?_⟩
             obtain ⟨nan137, hnan137⟩ := Kd.size_letter hb
             have HO176 := Zz.mk (Kd.S_lower (Kd.S_geN (Kd.S_new' (Kd.S_new' (Kd.S_new' (Kd.S_new' (Kd.S_new' (Kd.S_new' (Kd.S_new' (Kd.S_new' (Kd.S_new' (Kd.S_new' ho0 (Kd.S_lt (KS_ HO109.out))) (Kd.S_lt (KS_ HO114.out))) (Kd.S_lt (KS_ HO119.out))) (Kd.S_lt (KS_ HO126.out))) (Kd.S_lt (KS_ HO132.out))) (Kd.S_lt (KS_ HO138.out))) (Kd.S_lt (KS_ HO146.out))) (Kd.S_lt (KS_ HO152.out))) (Kd.S_lt (KS_ HO166.out))) (Kd.S_lt (KS_ HO171.out))) hnan137) (bS_ (Bw7_ HB.out GE101.out GE102.out GE121.out GE127.out GE133.out GE140.out GE178.out)))
             replace HO109 := Zz.mk (Kd.S_told (Kd.S_oldN (KS_ HO109.out) hb hnan137) (Kd.S_baseN ho0 hnan137))
             replace HO114 := Zz.mk (Kd.S_told (Kd.S_oldN (KS_ HO114.out) hb hnan137) (Kd.S_baseN ho0 hnan137))
             replace HO119 := Zz.mk (Kd.S_told (Kd.S_oldN (KS_ HO119.out) hb hnan137) (Kd.S_baseN ho0 hnan137))
             replace HO126 := Zz.mk (Kd.S_told (Kd.S_oldN (KS_ HO126.out) hb hnan137) (Kd.S_baseN ho0 hnan137))
             replace HO132 := Zz.mk (Kd.S_told (Kd.S_oldN (KS_ HO132.out) hb hnan137) (Kd.S_baseN ho0 hnan137))
             replace HO138 := Zz.mk (Kd.S_told (Kd.S_oldN (KS_ HO138.out) hb hnan137) (Kd.S_baseN ho0 hnan137))
             replace HO146 := Zz.mk (Kd.S_told (Kd.S_oldN (KS_ HO146.out) hb hnan137) (Kd.S_baseN ho0 hnan137))
             replace HO152 := Zz.mk (Kd.S_told (Kd.S_oldN (KS_ HO152.out) hb hnan137) (Kd.S_baseN ho0 hnan137))
             replace HO166 := Zz.mk (Kd.S_told (Kd.S_oldN (KS_ HO166.out) hb hnan137) (Kd.S_baseN ho0 hnan137))
             replace HO171 := Zz.mk (Kd.S_told (Kd.S_oldN (KS_ HO171.out) hb hnan137) (Kd.S_baseN ho0 hnan137))
             replace BK101 := Zz.mk (bB_ (g := gb101) (o := .cells #[.int .i64 a0_0, .int .i64 a0_1, .slice A0_2 l0_2.length c0_2] 24 (0, 0)) (KB_ BK101.out) hb)
             replace BK102 := Zz.mk (bB_ (g := gb102) (o := .cells #[.int .i64 a1_0, .int .i64 a1_1, .slice A1_2 l1_2.length c1_2] 24 (0, 0)) (KB_ BK102.out) hb)
             replace BK121 := Zz.mk (bB_ (g := gb121) (o := .cells #[.int .i64 t115, .int .i64 t116, .slice Ao71 t117.length co71] 29 (0, 0)) (KB_ BK121.out) hb)
             replace BK127 := Zz.mk (bB_ (g := gb127) (o := .cells #[.int .i64 t122, .int .i64 t123, .slice Ao82 t124.length co82] 29 (0, 0)) (KB_ BK127.out) hb)
             replace BK133 := Zz.mk (bB_ (g := gb133) (o := .cells #[.int .i64 t128, .int .i64 t129, .slice Ao93 t130.length co93] 29 (0, 0)) (KB_ BK133.out) hb)
             replace BK140 := Zz.mk (bB_ (g := gb140) (o := .cells #[.int .i64 t134, .int .i64 t135, .slice Ao104 t136.length co104] 29 (0, 0)) (KB_ BK140.out) hb)
             replace BK178 := Zz.mk (bB_ (g := gb178) (o := .cells #[.int .i64 0, .int .i64 0, .slice none 0 0] 29 (0, 0)) (KB_ BK178.out) hb)
             replace HB := Zz.mk (bT_ (Bw7_ HB.out GE101.out GE102.out GE121.out GE127.out GE133.out GE140.out GE178.out) hb)
             (try clear hb);(try clear hb2);(try clear hk);(try clear hi);(try clear ho0)
             refine hK.out _ _ ⟨(bC_ BK101.out 0).trans rfl, (bC_ BK101.out 1).trans rfl, (bC_ BK101.out 2).trans rfl, (bC_ BK102.out 0).trans rfl, (bC_ BK102.out 1).trans rfl, (bC_ BK102.out 2).trans rfl⟩ (fun hHeld => ?_)
             clear hK K
             refine NM_ (N := (some 99)) (h := ?_)
             refine PX_ 5 94 (tb_ 11 319) HT_ rfl rfl ?_
             refine PX_ 6 100 (tb_ 11 383) HT_ rfl rfl ?_
             refine PX_ 7 101 (tb_ 11 511) HT_ rfl rfl ?_
             exact norm_ (by simp only [putAll, Act.put, List.setIfInBounds_toArray, List.set_cons_zero, List.set_cons_succ]) (hCont (.slice Ao134 t164.length co134, .slice Ao135 t169.length co135, v175, gb178) _ ⟨hHeld, (by refine SW_ ?_; exact Kd.S_mono HO109.out (fun _ hk => ⟨hk.1.1.1.1.1.1.1.1.1.1.1.1.1.1.1.1.1, ⟨hk.1.1.1.1.1.1.1.1.1.1.1.1.1.1.1.1.2, ⟨hk.1.1.1.1.1.1.1.1.1.1.1.1.1.1.1.2, ⟨hk.1.1.1.1.1.1.1.1.1.1.1.1.1.2, ⟨hk.1.1.1.1.1.1.1.1.1.1.1.2, ⟨hk.1.1.1.1.1.1.1.1.1.2, ⟨hk.1.1.1.1.1.1.1.2, ⟨hk.1.1.1.1.1.2, ⟨hk.1.1.1.2, ⟨hk.1.2, ⟨hk.1.1.1.1.1.1.1.1.1.1.1.1.1.1.2, ⟨hk.1.1.1.1.1.1.1.1.1.1.1.1.2, ⟨hk.1.1.1.1.1.1.1.1.1.1.2, ⟨hk.1.1.1.1.1.1.1.1.2, hk.1.1.1.1.1.1.2⟩⟩⟩⟩⟩⟩⟩⟩⟩⟩⟩⟩⟩⟩)), (by refine SW_ ?_; exact Kd.S_mono HO114.out (fun _ hk => ⟨hk.1.1.1.1.1.1.1.1.1.1.1.1.1.1.1.1.1, ⟨hk.1.1.1.1.1.1.1.1.1.1.1.1.1.1.1.1.2, ⟨hk.1.1.1.1.1.1.1.1.1.1.1.1.1.1.1.2, ⟨hk.1.1.1.1.1.1.1.1.1.1.1.1.1.2, ⟨hk.1.1.1.1.1.1.1.1.1.1.1.2, ⟨hk.1.1.1.1.1.1.1.1.1.2, ⟨hk.1.1.1.1.1.1.1.2, ⟨hk.1.1.1.1.1.2, ⟨hk.1.1.1.2, ⟨hk.1.2, ⟨hk.1.1.1.1.1.1.1.1.1.1.1.1.1.1.2, ⟨hk.1.1.1.1.1.1.1.1.1.1.1.1.2, ⟨hk.1.1.1.1.1.1.1.1.1.1.2, ⟨hk.1.1.1.1.1.1.1.1.2, hk.1.1.1.1.1.1.2⟩⟩⟩⟩⟩⟩⟩⟩⟩⟩⟩⟩⟩⟩)), (by refine SW_ ?_; exact Kd.S_mono HO119.out (fun _ hk => ⟨hk.1.1.1.1.1.1.1.1.1.1.1.1.1.1.1.1.1, ⟨hk.1.1.1.1.1.1.1.1.1.1.1.1.1.1.1.1.2, ⟨hk.1.1.1.1.1.1.1.1.1.1.1.1.1.1.1.2, ⟨hk.1.1.1.1.1.1.1.1.1.1.1.1.1.2, ⟨hk.1.1.1.1.1.1.1.1.1.1.1.2, ⟨hk.1.1.1.1.1.1.1.1.1.2, ⟨hk.1.1.1.1.1.1.1.2, ⟨hk.1.1.1.1.1.2, ⟨hk.1.1.1.2, ⟨hk.1.2, ⟨hk.1.1.1.1.1.1.1.1.1.1.1.1.1.1.2, ⟨hk.1.1.1.1.1.1.1.1.1.1.1.1.2, ⟨hk.1.1.1.1.1.1.1.1.1.1.2, ⟨hk.1.1.1.1.1.1.1.1.2, hk.1.1.1.1.1.1.2⟩⟩⟩⟩⟩⟩⟩⟩⟩⟩⟩⟩⟩⟩)), (by refine SW_ ?_; exact Kd.S_mono HO126.out (fun _ hk => ⟨hk.1.1.1.1.1.1.1.1.1.1.1.1.1.1.1.1.1.2, ⟨hk.1.1.1.1.1.1.1.1.1.1.1.1.1.1.1.1.2, ⟨hk.1.1.1.1.1.1.1.1.1.1.1.1.1.1.1.2, ⟨hk.1.1.1.1.1.1.1.1.1.1.1.1.1.2, ⟨hk.1.1.1.1.1.1.1.1.1.1.1.2, ⟨hk.1.1.1.1.1.1.1.1.1.2, ⟨hk.1.1.1.1.1.1.1.2, ⟨hk.1.1.1.1.1.2, ⟨hk.1.1.1.2, ⟨hk.1.2, ⟨hk.1.1.1.1.1.1.1.1.1.1.1.1.1.1.2, ⟨hk.1.1.1.1.1.1.1.1.1.1.1.1.2, ⟨hk.1.1.1.1.1.1.1.1.1.1.2, ⟨hk.1.1.1.1.1.1.1.1.2, hk.1.1.1.1.1.1.2⟩⟩⟩⟩⟩⟩⟩⟩⟩⟩⟩⟩⟩⟩)), (by refine SW_ ?_; exact Kd.S_mono HO132.out (fun _ hk => ⟨hk.1.1.1.1.1.1.1.1.1.1.1.1.1.1.1.1.2, ⟨hk.1.1.1.1.1.1.1.1.1.1.1.1.1.1.1.2, ⟨hk.1.1.1.1.1.1.1.1.1.1.1.1.1.1.2, ⟨hk.1.1.1.1.1.1.1.1.1.1.1.1.1.2, ⟨hk.1.1.1.1.1.1.1.1.1.1.1.2, ⟨hk.1.1.1.1.1.1.1.1.1.2, ⟨hk.1.1.1.1.1.1.1.2, ⟨hk.1.1.1.1.1.2, ⟨hk.1.1.1.2, ⟨hk.1.2, ⟨hk.1.1.1.1.1.1.1.1.1.1.1.1.2, ⟨hk.1.1.1.1.1.1.1.1.1.1.2, ⟨hk.1.1.1.1.1.1.1.1.2, hk.1.1.1.1.1.1.2⟩⟩⟩⟩⟩⟩⟩⟩⟩⟩⟩⟩⟩)), (by refine SW_ ?_; exact Kd.S_mono HO138.out (fun _ hk => ⟨hk.1.1.1.1.1.1.1.1.1.1.1.1.1.1.1.2, ⟨hk.1.1.1.1.1.1.1.1.1.1.1.1.1.1.2, ⟨hk.1.1.1.1.1.1.1.1.1.1.1.1.1.2, ⟨hk.1.1.1.1.1.1.1.1.1.1.1.1.2, ⟨hk.1.1.1.1.1.1.1.1.1.1.1.2, ⟨hk.1.1.1.1.1.1.1.1.1.2, ⟨hk.1.1.1.1.1.1.1.2, ⟨hk.1.1.1.1.1.2, ⟨hk.1.1.1.2, ⟨hk.1.2, ⟨hk.1.1.1.1.1.1.1.1.1.1.2, ⟨hk.1.1.1.1.1.1.1.1.2, hk.1.1.1.1.1.1.2⟩⟩⟩⟩⟩⟩⟩⟩⟩⟩⟩⟩)), (by refine SW_ ?_; exact Kd.S_mono HO146.out (fun _ hk => ⟨hk.1.1.1.1.1.1.1.1.1.1.1.1.1.1.2, ⟨hk.1.1.1.1.1.1.1.1.1.1.1.1.1.2, ⟨hk.1.1.1.1.1.1.1.1.1.1.1.1.2, ⟨hk.1.1.1.1.1.1.1.1.1.1.1.2, ⟨hk.1.1.1.1.1.1.1.1.1.1.2, ⟨hk.1.1.1.1.1.1.1.1.1.2, ⟨hk.1.1.1.1.1.1.1.2, ⟨hk.1.1.1.1.1.2, ⟨hk.1.1.1.2, ⟨hk.1.2, ⟨hk.1.1.1.1.1.1.1.1.2, hk.1.1.1.1.1.1.2⟩⟩⟩⟩⟩⟩⟩⟩⟩⟩⟩)), (by refine SW_ ?_; exact Kd.S_mono HO152.out (fun _ hk => ⟨hk.1.1.1.1.1.1.1.1.1.1.1.1.1.2, ⟨hk.1.1.1.1.1.1.1.1.1.1.1.1.2, ⟨hk.1.1.1.1.1.1.1.1.1.1.1.2, ⟨hk.1.1.1.1.1.1.1.1.1.1.2, ⟨hk.1.1.1.1.1.1.1.1.1.2, ⟨hk.1.1.1.1.1.1.1.1.2, ⟨hk.1.1.1.1.1.1.1.2, ⟨hk.1.1.1.1.1.2, ⟨hk.1.1.1.2, ⟨hk.1.2, hk.1.1.1.1.1.1.2⟩⟩⟩⟩⟩⟩⟩⟩⟩⟩)), (by refine SW_ ?_; exact Kd.S_mono HO166.out (fun _ hk => ⟨hk.1.1.1.1.1.1.1.1.1.1.1.1.2, ⟨hk.1.1.1.1.1.1.1.1.1.1.1.2, ⟨hk.1.1.1.1.1.1.1.1.1.1.2, ⟨hk.1.1.1.1.1.1.1.1.1.2, ⟨hk.1.1.1.1.1.1.1.1.2, ⟨hk.1.1.1.1.1.1.1.2, ⟨hk.1.1.1.1.1.1.2, ⟨hk.1.1.1.1.1.2, ⟨hk.1.1.1.2, hk.1.2⟩⟩⟩⟩⟩⟩⟩⟩⟩)), (by refine SW_ ?_; exact Kd.S_mono HO171.out (fun _ hk => ⟨hk.1.1.1.1.1.1.1.1.1.1.1.2, ⟨hk.1.1.1.1.1.1.1.1.1.1.2, ⟨hk.1.1.1.1.1.1.1.1.1.2, ⟨hk.1.1.1.1.1.1.1.1.2, ⟨hk.1.1.1.1.1.1.1.2, ⟨hk.1.1.1.1.1.1.2, ⟨hk.1.1.1.1.1.2, ⟨hk.1.1.1.1.2, ⟨hk.1.1.1.2, hk.1.2⟩⟩⟩⟩⟩⟩⟩⟩⟩)), (by refine SW_ ?_; exact Kd.S_mono HO176.out (fun _ hk => ⟨hk.1.1.1.1.1.1.1.1.1.1.2, ⟨hk.1.1.1.1.1.1.1.1.1.2, ⟨hk.1.1.1.1.1.1.1.1.2, ⟨hk.1.1.1.1.1.1.1.2, ⟨hk.1.1.1.1.1.1.2, ⟨hk.1.1.1.1.1.2, ⟨hk.1.1.1.1.2, ⟨hk.1.1.1.2, ⟨hk.1.1.2, hk.1.2⟩⟩⟩⟩⟩⟩⟩⟩⟩)), (KB_ BK101.out), (KB_ BK102.out), (KB_ BK121.out), (KB_ BK127.out), (KB_ BK133.out), (KB_ BK140.out), (KB_ BK178.out), GW178.out, GE178.out, NB101_178.out, NB178_101.out, NB102_178.out, NB178_102.out, NB121_178.out, NB178_121.out, NB127_178.out, NB178_127.out, NB133_178.out, NB178_133.out, NB140_178.out, NB178_140.out, (Bw7_ HB.out GE101.out GE102.out GE121.out GE127.out GE133.out GE140.out GE178.out)⟩)
            skip
            refine box_step ?hg (N := 15) ?hd (cs := #[.int .i64 0, .int .i64 0, .slice none 0 0]) (t := 29) ?hr ?_; (case hd => rfl); (case hg => rfl); (case hr => first | (go_simp; done) | (go_simp; rfl))
            intro gb178 hg w131 hbox hb
            have BK178 := Zz.mk (hbox)
            have GW178 := Zz.mk ((by rw [hg]; exact (bS_ (Bw6_ HB.out GE101.out GE102.out GE121.out GE127.out GE133.out GE140.out)) : w.heap.size ≤ gb178))
            have GE178 := GW178
            have NB101_178 := Zz.mk ((by rw [hg]; exact Nat.ne_of_lt (blk_lt (g := gb101) (o := .cells #[.int .i64 a0_0, .int .i64 a0_1, .slice A0_2 l0_2.length c0_2] 24 (0, 0)) (KB_ BK101.out)) : gb101 ≠ gb178))
            have NB178_101 := Zz.mk NB101_178.out.symm
            have NB102_178 := Zz.mk ((by rw [hg]; exact Nat.ne_of_lt (blk_lt (g := gb102) (o := .cells #[.int .i64 a1_0, .int .i64 a1_1, .slice A1_2 l1_2.length c1_2] 24 (0, 0)) (KB_ BK102.out)) : gb102 ≠ gb178))
            have NB178_102 := Zz.mk NB102_178.out.symm
            have NB121_178 := Zz.mk ((by rw [hg]; exact Nat.ne_of_lt (blk_lt (g := gb121) (o := .cells #[.int .i64 t115, .int .i64 t116, .slice Ao71 t117.length co71] 29 (0, 0)) (KB_ BK121.out)) : gb121 ≠ gb178))
            have NB178_121 := Zz.mk NB121_178.out.symm
            have NB127_178 := Zz.mk ((by rw [hg]; exact Nat.ne_of_lt (blk_lt (g := gb127) (o := .cells #[.int .i64 t122, .int .i64 t123, .slice Ao82 t124.length co82] 29 (0, 0)) (KB_ BK127.out)) : gb127 ≠ gb178))
            have NB178_127 := Zz.mk NB127_178.out.symm
            have NB133_178 := Zz.mk ((by rw [hg]; exact Nat.ne_of_lt (blk_lt (g := gb133) (o := .cells #[.int .i64 t128, .int .i64 t129, .slice Ao93 t130.length co93] 29 (0, 0)) (KB_ BK133.out)) : gb133 ≠ gb178))
            have NB178_133 := Zz.mk NB133_178.out.symm
            have NB140_178 := Zz.mk ((by rw [hg]; exact Nat.ne_of_lt (blk_lt (g := gb140) (o := .cells #[.int .i64 t134, .int .i64 t135, .slice Ao104 t136.length co104] 29 (0, 0)) (KB_ BK140.out)) : gb140 ≠ gb178))
            have NB178_140 := Zz.mk NB140_178.out.symm
            replace HO109 := Zz.mk (Kd.S_below (KS_ HO109.out) hb)
            replace HO114 := Zz.mk (Kd.S_below (KS_ HO114.out) hb)
            replace HO119 := Zz.mk (Kd.S_below (KS_ HO119.out) hb)
            replace HO126 := Zz.mk (Kd.S_below (KS_ HO126.out) hb)
            replace HO132 := Zz.mk (Kd.S_below (KS_ HO132.out) hb)
            replace HO138 := Zz.mk (Kd.S_below (KS_ HO138.out) hb)
            replace HO146 := Zz.mk (Kd.S_below (KS_ HO146.out) hb)
            replace HO152 := Zz.mk (Kd.S_below (KS_ HO152.out) hb)
            replace HO166 := Zz.mk (Kd.S_below (KS_ HO166.out) hb)
            replace BK101 := Zz.mk (bB_ (g := gb101) (o := .cells #[.int .i64 a0_0, .int .i64 a0_1, .slice A0_2 l0_2.length c0_2] 24 (0, 0)) (KB_ BK101.out) hb)
            replace BK102 := Zz.mk (bB_ (g := gb102) (o := .cells #[.int .i64 a1_0, .int .i64 a1_1, .slice A1_2 l1_2.length c1_2] 24 (0, 0)) (KB_ BK102.out) hb)
            replace BK121 := Zz.mk (bB_ (g := gb121) (o := .cells #[.int .i64 t115, .int .i64 t116, .slice Ao71 t117.length co71] 29 (0, 0)) (KB_ BK121.out) hb)
            replace BK127 := Zz.mk (bB_ (g := gb127) (o := .cells #[.int .i64 t122, .int .i64 t123, .slice Ao82 t124.length co82] 29 (0, 0)) (KB_ BK127.out) hb)
            replace BK133 := Zz.mk (bB_ (g := gb133) (o := .cells #[.int .i64 t128, .int .i64 t129, .slice Ao93 t130.length co93] 29 (0, 0)) (KB_ BK133.out) hb)
            replace BK140 := Zz.mk (bB_ (g := gb140) (o := .cells #[.int .i64 t134, .int .i64 t135, .slice Ao104 t136.length co104] 29 (0, 0)) (KB_ BK140.out) hb)
            replace HB := Zz.mk (bT_ (Bw6_ HB.out GE101.out GE102.out GE121.out GE127.out GE133.out GE140.out) hb)
            clear hb hbox hg
            refine hK.out _ _ ⟨(bC_ BK101.out 0).trans rfl, (bC_ BK101.out 1).trans rfl, (bC_ BK101.out 2).trans rfl, (bC_ BK102.out 0).trans rfl, (bC_ BK102.out 1).trans rfl, (bC_ BK102.out 2).trans rfl⟩ (fun hHeld => ?_)
            clear hK K
            refine NM_ (N := (some 15)) (h := ?_)
            refine one_ (i := 3) (N := some 98) (tb_ 11 271) rfl rfl (one_of HT_.out (by kernel_rfl)) (by decide) (fun K hK => ?_)
            refine GO_ Try.func13 #[.agg #[.int .i64 a1_0, .int .i64 a1_1, .slice A1_2 l1_2.length c1_2]] (h := ?_)
            with_reducible refine (z13.calls k a1_0 a1_1 _ _ l1_2 t167 t168 t169 _ ?side1 ?side2 A44.out).mono ?_
            (case side1 => exact KC_ (Kd.C_below HR1_2.out HB.out))
            (case side2 => exact HC1_2.out)
            rintro e w132 ⟨v170, rfl, ho0, hb⟩
            refine ⟨_, rfl, ?_⟩
            obtain ⟨nan133, hnan133⟩ := Kd.size_letter hb
            have HO171 := Zz.mk (Kd.S_lower (Kd.S_geN (Kd.S_new' (Kd.S_new' (Kd.S_new' (Kd.S_new' (Kd.S_new' (Kd.S_new' (Kd.S_new' (Kd.S_new' (Kd.S_new' ho0 (Kd.S_lt (KS_ HO109.out))) (Kd.S_lt (KS_ HO114.out))) (Kd.S_lt (KS_ HO119.out))) (Kd.S_lt (KS_ HO126.out))) (Kd.S_lt (KS_ HO132.out))) (Kd.S_lt (KS_ HO138.out))) (Kd.S_lt (KS_ HO146.out))) (Kd.S_lt (KS_ HO152.out))) (Kd.S_lt (KS_ HO166.out))) hnan133) (bS_ (Bw7_ HB.out GE101.out GE102.out GE121.out GE127.out GE133.out GE140.out GE178.out)))
            replace HO109 := Zz.mk (Kd.S_told (Kd.S_oldN (KS_ HO109.out) hb hnan133) (Kd.S_baseN ho0 hnan133))
            replace HO114 := Zz.mk (Kd.S_told (Kd.S_oldN (KS_ HO114.out) hb hnan133) (Kd.S_baseN ho0 hnan133))
            replace HO119 := Zz.mk (Kd.S_told (Kd.S_oldN (KS_ HO119.out) hb hnan133) (Kd.S_baseN ho0 hnan133))
            replace HO126 := Zz.mk (Kd.S_told (Kd.S_oldN (KS_ HO126.out) hb hnan133) (Kd.S_baseN ho0 hnan133))
            replace HO132 := Zz.mk (Kd.S_told (Kd.S_oldN (KS_ HO132.out) hb hnan133) (Kd.S_baseN ho0 hnan133))
            replace HO138 := Zz.mk (Kd.S_told (Kd.S_oldN (KS_ HO138.out) hb hnan133) (Kd.S_baseN ho0 hnan133))
            replace HO146 := Zz.mk (Kd.S_told (Kd.S_oldN (KS_ HO146.out) hb hnan133) (Kd.S_baseN ho0 hnan133))
            replace HO152 := Zz.mk (Kd.S_told (Kd.S_oldN (KS_ HO152.out) hb hnan133) (Kd.S_baseN ho0 hnan133))
            replace HO166 := Zz.mk (Kd.S_told (Kd.S_oldN (KS_ HO166.out) hb hnan133) (Kd.S_baseN ho0 hnan133))
            replace BK101 := Zz.mk (bB_ (g := gb101) (o := .cells #[.int .i64 a0_0, .int .i64 a0_1, .slice A0_2 l0_2.length c0_2] 24 (0, 0)) (KB_ BK101.out) hb)
            replace BK102 := Zz.mk (bB_ (g := gb102) (o := .cells #[.int .i64 a1_0, .int .i64 a1_1, .slice A1_2 l1_2.length c1_2] 24 (0, 0)) (KB_ BK102.out) hb)
            replace BK121 := Zz.mk (bB_ (g := gb121) (o := .cells #[.int .i64 t115, .int .i64 t116, .slice Ao71 t117.length co71] 29 (0, 0)) (KB_ BK121.out) hb)
            replace BK127 := Zz.mk (bB_ (g := gb127) (o := .cells #[.int .i64 t122, .int .i64 t123, .slice Ao82 t124.length co82] 29 (0, 0)) (KB_ BK127.out) hb)
            replace BK133 := Zz.mk (bB_ (g := gb133) (o := .cells #[.int .i64 t128, .int .i64 t129, .slice Ao93 t130.length co93] 29 (0, 0)) (KB_ BK133.out) hb)
            replace BK140 := Zz.mk (bB_ (g := gb140) (o := .cells #[.int .i64 t134, .int .i64 t135, .slice Ao104 t136.length co104] 29 (0, 0)) (KB_ BK140.out) hb)
            replace BK178 := Zz.mk (bB_ (g := gb178) (o := .cells #[.int .i64 0, .int .i64 0, .slice none 0 0] 29 (0, 0)) (KB_ BK178.out) hb)
            replace HB := Zz.mk (bT_ (Bw7_ HB.out GE101.out GE102.out GE121.out GE127.out GE133.out GE140.out GE178.out) hb)
            (try clear hb);(try clear hb2);(try clear hk);(try clear hi);(try clear ho0)
            obtain ⟨Ao134, co134, eo134⟩ := Kd.S_slice HO166.out
            (first | subst eo134 | (injection eo134 with f1_ f2_ f3_; have f4_ := f1_.symm; have f5_ := f3_.symm; clear f1_ f2_ f3_; subst f4_; subst f5_))
            obtain ⟨Ao135, co135, eo135⟩ := Kd.S_slice HO171.out
            (first | subst eo135 | (injection eo135 with f1_ f2_ f3_; have f4_ := f1_.symm; have f5_ := f3_.symm; clear f1_ f2_ f3_; subst f4_; subst f5_))
            refine hK.out _ _ ⟨(bC_ BK101.out 0).trans rfl, (bC_ BK101.out 1).trans rfl, (bC_ BK101.out 2).trans rfl, (bC_ BK102.out 0).trans rfl, (bC_ BK102.out 1).trans rfl, (bC_ BK102.out 2).trans rfl⟩ (fun hHeld => ?_)
            clear hK K
            refine NM_ (N := (some 98)) (h := ?_)
            refine one_ (i := 4) (N := some 99) (tb_ 11 287) rfl rfl (one_of HT_.out (by kernel_rfl)) (by decide) (fun K hK => ?_)
            refine GO_ Try.func22 #[.agg #[.int .i64 t162, .int .i64 t163, .slice Ao134 t164.length co134], .agg #[.int .i64 t167, .int .i64 t168, .slice Ao135 t169.length co135]] (h := ?_)
            with_reducible refine (z22.calls k t162 t163 _ _ t164 t167 t168 _ _ t169 t172 t173 t174 t177 _ ?side1 ?side2 ?side3 ?side4 A45.out).mono ?_
            (case side1 => exact KC_ (Kd.S_reads' HO166.out).2.2)
            (case side2 => exact (Kd.S_reads' HO166.out).2.1)
            (case side3 => exact KC_ (Kd.S_reads' HO171.out).2.2)
            (case side4 => exact (Kd.S_reads' HO171.out).2.1)
            rintro e w136 ⟨v175, rfl, ho0, hb⟩
            refine ⟨_, rfl, ?_⟩
            obtain ⟨nan137, hnan137⟩ := Kd.size_letter hb
            have HO176 := Zz.mk (Kd.S_lower (Kd.S_geN (Kd.S_new' (Kd.S_new' (Kd.S_new' (Kd.S_new' (Kd.S_new' (Kd.S_new' (Kd.S_new' (Kd.S_new' (Kd.S_new' (Kd.S_new' ho0 (Kd.S_lt (KS_ HO109.out))) (Kd.S_lt (KS_ HO114.out))) (Kd.S_lt (KS_ HO119.out))) (Kd.S_lt (KS_ HO126.out))) (Kd.S_lt (KS_ HO132.out))) (Kd.S_lt (KS_ HO138.out))) (Kd.S_lt (KS_ HO146.out))) (Kd.S_lt (KS_ HO152.out))) (Kd.S_lt (KS_ HO166.out))) (Kd.S_lt (KS_ HO171.out))) hnan137) (bS_ (Bw7_ HB.out GE101.out GE102.out GE121.out GE127.out GE133.out GE140.out GE178.out)))
            replace HO109 := Zz.mk (Kd.S_told (Kd.S_oldN (KS_ HO109.out) hb hnan137) (Kd.S_baseN ho0 hnan137))
            replace HO114 := Zz.mk (Kd.S_told (Kd.S_oldN (KS_ HO114.out) hb hnan137) (Kd.S_baseN ho0 hnan137))
            replace HO119 := Zz.mk (Kd.S_told (Kd.S_oldN (KS_ HO119.out) hb hnan137) (Kd.S_baseN ho0 hnan137))
            replace HO126 := Zz.mk (Kd.S_told (Kd.S_oldN (KS_ HO126.out) hb hnan137) (Kd.S_baseN ho0 hnan137))
            replace HO132 := Zz.mk (Kd.S_told (Kd.S_oldN (KS_ HO132.out) hb hnan137) (Kd.S_baseN ho0 hnan137))
            replace HO138 := Zz.mk (Kd.S_told (Kd.S_oldN (KS_ HO138.out) hb hnan137) (Kd.S_baseN ho0 hnan137))
            replace HO146 := Zz.mk (Kd.S_told (Kd.S_oldN (KS_ HO146.out) hb hnan137) (Kd.S_baseN ho0 hnan137))
            replace HO152 := Zz.mk (Kd.S_told (Kd.S_oldN (KS_ HO152.out) hb hnan137) (Kd.S_baseN ho0 hnan137))
            replace HO166 := Zz.mk (Kd.S_told (Kd.S_oldN (KS_ HO166.out) hb hnan137) (Kd.S_baseN ho0 hnan137))
            replace HO171 := Zz.mk (Kd.S_told (Kd.S_oldN (KS_ HO171.out) hb hnan137) (Kd.S_baseN ho0 hnan137))
            replace BK101 := Zz.mk (bB_ (g := gb101) (o := .cells #[.int .i64 a0_0, .int .i64 a0_1, .slice A0_2 l0_2.length c0_2] 24 (0, 0)) (KB_ BK101.out) hb)
            replace BK102 := Zz.mk (bB_ (g := gb102) (o := .cells #[.int .i64 a1_0, .int .i64 a1_1, .slice A1_2 l1_2.length c1_2] 24 (0, 0)) (KB_ BK102.out) hb)
            replace BK121 := Zz.mk (bB_ (g := gb121) (o := .cells #[.int .i64 t115, .int .i64 t116, .slice Ao71 t117.length co71] 29 (0, 0)) (KB_ BK121.out) hb)
            replace BK127 := Zz.mk (bB_ (g := gb127) (o := .cells #[.int .i64 t122, .int .i64 t123, .slice Ao82 t124.length co82] 29 (0, 0)) (KB_ BK127.out) hb)
            replace BK133 := Zz.mk (bB_ (g := gb133) (o := .cells #[.int .i64 t128, .int .i64 t129, .slice Ao93 t130.length co93] 29 (0, 0)) (KB_ BK133.out) hb)
            replace BK140 := Zz.mk (bB_ (g := gb140) (o := .cells #[.int .i64 t134, .int .i64 t135, .slice Ao104 t136.length co104] 29 (0, 0)) (KB_ BK140.out) hb)
            replace BK178 := Zz.mk (bB_ (g := gb178) (o := .cells #[.int .i64 0, .int .i64 0, .slice none 0 0] 29 (0, 0)) (KB_ BK178.out) hb)
            replace HB := Zz.mk (bT_ (Bw7_ HB.out GE101.out GE102.out GE121.out GE127.out GE133.out GE140.out GE178.out) hb)
            (try clear hb);(try clear hb2);(try clear hk);(try clear hi);(try clear ho0)
            refine hK.out _ _ ⟨(bC_ BK101.out 0).trans rfl, (bC_ BK101.out 1).trans rfl, (bC_ BK101.out 2).trans rfl, (bC_ BK102.out 0).trans rfl, (bC_ BK102.out 1).trans rfl, (bC_ BK102.out 2).trans rfl⟩ (fun hHeld => ?_)
            clear hK K
            refine NM_ (N := (some 99)) (h := ?_)
            refine PX_ 5 94 (tb_ 11 319) HT_ rfl rfl ?_
            refine PX_ 6 100 (tb_ 11 383) HT_ rfl rfl ?_
            refine PX_ 7 101 (tb_ 11 511) HT_ rfl rfl ?_
            exact norm_ (by simp only [putAll, Act.put, List.setIfInBounds_toArray, List.set_cons_zero, List.set_cons_succ]) (hCont (.slice Ao134 t164.length co134, .slice Ao135 t169.length co135, v175, gb178) _ ⟨hHeld, (by refine SW_ ?_; exact Kd.S_mono HO109.out (fun _ hk => ⟨hk.1.1.1.1.1.1.1.1.1.1.1.1.1.1.1.1.1, ⟨hk.1.1.1.1.1.1.1.1.1.1.1.1.1.1.1.1.2, ⟨hk.1.1.1.1.1.1.1.1.1.1.1.1.1.1.1.2, ⟨hk.1.1.1.1.1.1.1.1.1.1.1.1.1.2, ⟨hk.1.1.1.1.1.1.1.1.1.1.1.2, ⟨hk.1.1.1.1.1.1.1.1.1.2, ⟨hk.1.1.1.1.1.1.1.2, ⟨hk.1.1.1.1.1.2, ⟨hk.1.1.1.2, ⟨hk.1.2, ⟨hk.1.1.1.1.1.1.1.1.1.1.1.1.1.1.2, ⟨hk.1.1.1.1.1.1.1.1.1.1.1.1.2, ⟨hk.1.1.1.1.1.1.1.1.1.1.2, ⟨hk.1.1.1.1.1.1.1.1.2, hk.1.1.1.1.1.1.2⟩⟩⟩⟩⟩⟩⟩⟩⟩⟩⟩⟩⟩⟩)), (by refine SW_ ?_; exact Kd.S_mono HO114.out (fun _ hk => ⟨hk.1.1.1.1.1.1.1.1.1.1.1.1.1.1.1.1.1, ⟨hk.1.1.1.1.1.1.1.1.1.1.1.1.1.1.1.1.2, ⟨hk.1.1.1.1.1.1.1.1.1.1.1.1.1.1.1.2, ⟨hk.1.1.1.1.1.1.1.1.1.1.1.1.1.2, ⟨hk.1.1.1.1.1.1.1.1.1.1.1.2, ⟨hk.1.1.1.1.1.1.1.1.1.2, ⟨hk.1.1.1.1.1.1.1.2, ⟨hk.1.1.1.1.1.2, ⟨hk.1.1.1.2, ⟨hk.1.2, ⟨hk.1.1.1.1.1.1.1.1.1.1.1.1.1.1.2, ⟨hk.1.1.1.1.1.1.1.1.1.1.1.1.2, ⟨hk.1.1.1.1.1.1.1.1.1.1.2, ⟨hk.1.1.1.1.1.1.1.1.2, hk.1.1.1.1.1.1.2⟩⟩⟩⟩⟩⟩⟩⟩⟩⟩⟩⟩⟩⟩)), (by refine SW_ ?_; exact Kd.S_mono HO119.out (fun _ hk => ⟨hk.1.1.1.1.1.1.1.1.1.1.1.1.1.1.1.1.1, ⟨hk.1.1.1.1.1.1.1.1.1.1.1.1.1.1.1.1.2, ⟨hk.1.1.1.1.1.1.1.1.1.1.1.1.1.1.1.2, ⟨hk.1.1.1.1.1.1.1.1.1.1.1.1.1.2, ⟨hk.1.1.1.1.1.1.1.1.1.1.1.2, ⟨hk.1.1.1.1.1.1.1.1.1.2, ⟨hk.1.1.1.1.1.1.1.2, ⟨hk.1.1.1.1.1.2, ⟨hk.1.1.1.2, ⟨hk.1.2, ⟨hk.1.1.1.1.1.1.1.1.1.1.1.1.1.1.2, ⟨hk.1.1.1.1.1.1.1.1.1.1.1.1.2, ⟨hk.1.1.1.1.1.1.1.1.1.1.2, ⟨hk.1.1.1.1.1.1.1.1.2, hk.1.1.1.1.1.1.2⟩⟩⟩⟩⟩⟩⟩⟩⟩⟩⟩⟩⟩⟩)), (by refine SW_ ?_; exact Kd.S_mono HO126.out (fun _ hk => ⟨hk.1.1.1.1.1.1.1.1.1.1.1.1.1.1.1.1.1.2, ⟨hk.1.1.1.1.1.1.1.1.1.1.1.1.1.1.1.1.2, ⟨hk.1.1.1.1.1.1.1.1.1.1.1.1.1.1.1.2, ⟨hk.1.1.1.1.1.1.1.1.1.1.1.1.1.2, ⟨hk.1.1.1.1.1.1.1.1.1.1.1.2, ⟨hk.1.1.1.1.1.1.1.1.1.2, ⟨hk.1.1.1.1.1.1.1.2, ⟨hk.1.1.1.1.1.2, ⟨hk.1.1.1.2, ⟨hk.1.2, ⟨hk.1.1.1.1.1.1.1.1.1.1.1.1.1.1.2, ⟨hk.1.1.1.1.1.1.1.1.1.1.1.1.2, ⟨hk.1.1.1.1.1.1.1.1.1.1.2, ⟨hk.1.1.1.1.1.1.1.1.2, hk.1.1.1.1.1.1.2⟩⟩⟩⟩⟩⟩⟩⟩⟩⟩⟩⟩⟩⟩)), (by refine SW_ ?_; exact Kd.S_mono HO132.out (fun _ hk => ⟨hk.1.1.1.1.1.1.1.1.1.1.1.1.1.1.1.1.2, ⟨hk.1.1.1.1.1.1.1.1.1.1.1.1.1.1.1.2, ⟨hk.1.1.1.1.1.1.1.1.1.1.1.1.1.1.2, ⟨hk.1.1.1.1.1.1.1.1.1.1.1.1.1.2, ⟨hk.1.1.1.1.1.1.1.1.1.1.1.2, ⟨hk.1.1.1.1.1.1.1.1.1.2, ⟨hk.1.1.1.1.1.1.1.2, ⟨hk.1.1.1.1.1.2, ⟨hk.1.1.1.2, ⟨hk.1.2, ⟨hk.1.1.1.1.1.1.1.1.1.1.1.1.2, ⟨hk.1.1.1.1.1.1.1.1.1.1.2, ⟨hk.1.1.1.1.1.1.1.1.2, hk.1.1.1.1.1.1.2⟩⟩⟩⟩⟩⟩⟩⟩⟩⟩⟩⟩⟩)), (by refine SW_ ?_; exact Kd.S_mono HO138.out (fun _ hk => ⟨hk.1.1.1.1.1.1.1.1.1.1.1.1.1.1.1.2, ⟨hk.1.1.1.1.1.1.1.1.1.1.1.1.1.1.2, ⟨hk.1.1.1.1.1.1.1.1.1.1.1.1.1.2, ⟨hk.1.1.1.1.1.1.1.1.1.1.1.1.2, ⟨hk.1.1.1.1.1.1.1.1.1.1.1.2, ⟨hk.1.1.1.1.1.1.1.1.1.2, ⟨hk.1.1.1.1.1.1.1.2, ⟨hk.1.1.1.1.1.2, ⟨hk.1.1.1.2, ⟨hk.1.2, ⟨hk.1.1.1.1.1.1.1.1.1.1.2, ⟨hk.1.1.1.1.1.1.1.1.2, hk.1.1.1.1.1.1.2⟩⟩⟩⟩⟩⟩⟩⟩⟩⟩⟩⟩)), (by refine SW_ ?_; exact Kd.S_mono HO146.out (fun _ hk => ⟨hk.1.1.1.1.1.1.1.1.1.1.1.1.1.1.2, ⟨hk.1.1.1.1.1.1.1.1.1.1.1.1.1.2, ⟨hk.1.1.1.1.1.1.1.1.1.1.1.1.2, ⟨hk.1.1.1.1.1.1.1.1.1.1.1.2, ⟨hk.1.1.1.1.1.1.1.1.1.1.2, ⟨hk.1.1.1.1.1.1.1.1.1.2, ⟨hk.1.1.1.1.1.1.1.2, ⟨hk.1.1.1.1.1.2, ⟨hk.1.1.1.2, ⟨hk.1.2, ⟨hk.1.1.1.1.1.1.1.1.2, hk.1.1.1.1.1.1.2⟩⟩⟩⟩⟩⟩⟩⟩⟩⟩⟩)), (by refine SW_ ?_; exact Kd.S_mono HO152.out (fun _ hk => ⟨hk.1.1.1.1.1.1.1.1.1.1.1.1.1.2, ⟨hk.1.1.1.1.1.1.1.1.1.1.1.1.2, ⟨hk.1.1.1.1.1.1.1.1.1.1.1.2, ⟨hk.1.1.1.1.1.1.1.1.1.1.2, ⟨hk.1.1.1.1.1.1.1.1.1.2, ⟨hk.1.1.1.1.1.1.1.1.2, ⟨hk.1.1.1.1.1.1.1.2, ⟨hk.1.1.1.1.1.2, ⟨hk.1.1.1.2, ⟨hk.1.2, hk.1.1.1.1.1.1.2⟩⟩⟩⟩⟩⟩⟩⟩⟩⟩)), (by refine SW_ ?_; exact Kd.S_mono HO166.out (fun _ hk => ⟨hk.1.1.1.1.1.1.1.1.1.1.1.1.2, ⟨hk.1.1.1.1.1.1.1.1.1.1.1.2, ⟨hk.1.1.1.1.1.1.1.1.1.1.2, ⟨hk.1.1.1.1.1.1.1.1.1.2, ⟨hk.1.1.1.1.1.1.1.1.2, ⟨hk.1.1.1.1.1.1.1.2, ⟨hk.1.1.1.1.1.1.2, ⟨hk.1.1.1.1.1.2, ⟨hk.1.1.1.2, hk.1.2⟩⟩⟩⟩⟩⟩⟩⟩⟩)), (by refine SW_ ?_; exact Kd.S_mono HO171.out (fun _ hk => ⟨hk.1.1.1.1.1.1.1.1.1.1.1.2, ⟨hk.1.1.1.1.1.1.1.1.1.1.2, ⟨hk.1.1.1.1.1.1.1.1.1.2, ⟨hk.1.1.1.1.1.1.1.1.2, ⟨hk.1.1.1.1.1.1.1.2, ⟨hk.1.1.1.1.1.1.2, ⟨hk.1.1.1.1.1.2, ⟨hk.1.1.1.1.2, ⟨hk.1.1.1.2, hk.1.2⟩⟩⟩⟩⟩⟩⟩⟩⟩)), (by refine SW_ ?_; exact Kd.S_mono HO176.out (fun _ hk => ⟨hk.1.1.1.1.1.1.1.1.1.1.2, ⟨hk.1.1.1.1.1.1.1.1.1.2, ⟨hk.1.1.1.1.1.1.1.1.2, ⟨hk.1.1.1.1.1.1.1.2, ⟨hk.1.1.1.1.1.1.2, ⟨hk.1.1.1.1.1.2, ⟨hk.1.1.1.1.2, ⟨hk.1.1.1.2, ⟨hk.1.1.2, hk.1.2⟩⟩⟩⟩⟩⟩⟩⟩⟩)), (KB_ BK101.out), (KB_ BK102.out), (KB_ BK121.out), (KB_ BK127.out), (KB_ BK133.out), (KB_ BK140.out), (KB_ BK178.out), GW178.out, GE178.out, NB101_178.out, NB178_101.out, NB102_178.out, NB178_102.out, NB121_178.out, NB178_121.out, NB127_178.out, NB178_127.out, NB133_178.out, NB178_133.out, NB140_178.out, NB178_140.out, (Bw7_ HB.out GE101.out GE102.out GE121.out GE127.out GE133.out GE140.out GE178.out)⟩)
           skip
           refine box_step ?hg (N := 15) ?hd (cs := #[.int .i64 0, .int .i64 0, .slice none 0 0]) (t := 29) ?hr ?_; (case hd => rfl); (case hg => rfl); (case hr => first | (go_simp; done) | (go_simp; rfl))
           intro gb178 hg w129 hbox hb
           have BK178 := Zz.mk (hbox)
           have GW178 := Zz.mk ((by rw [hg]; exact (bS_ (Bw6_ HB.out GE101.out GE102.out GE121.out GE127.out GE133.out GE140.out)) : w.heap.size ≤ gb178))
           have GE178 := GW178
           have NB101_178 := Zz.mk ((by rw [hg]; exact Nat.ne_of_lt (blk_lt (g := gb101) (o := .cells #[.int .i64 a0_0, .int .i64 a0_1, .slice A0_2 l0_2.length c0_2] 24 (0, 0)) (KB_ BK101.out)) : gb101 ≠ gb178))
           have NB178_101 := Zz.mk NB101_178.out.symm
           have NB102_178 := Zz.mk ((by rw [hg]; exact Nat.ne_of_lt (blk_lt (g := gb102) (o := .cells #[.int .i64 a1_0, .int .i64 a1_1, .slice A1_2 l1_2.length c1_2] 24 (0, 0)) (KB_ BK102.out)) : gb102 ≠ gb178))
           have NB178_102 := Zz.mk NB102_178.out.symm
           have NB121_178 := Zz.mk ((by rw [hg]; exact Nat.ne_of_lt (blk_lt (g := gb121) (o := .cells #[.int .i64 t115, .int .i64 t116, .slice Ao71 t117.length co71] 29 (0, 0)) (KB_ BK121.out)) : gb121 ≠ gb178))
           have NB178_121 := Zz.mk NB121_178.out.symm
           have NB127_178 := Zz.mk ((by rw [hg]; exact Nat.ne_of_lt (blk_lt (g := gb127) (o := .cells #[.int .i64 t122, .int .i64 t123, .slice Ao82 t124.length co82] 29 (0, 0)) (KB_ BK127.out)) : gb127 ≠ gb178))
           have NB178_127 := Zz.mk NB127_178.out.symm
           have NB133_178 := Zz.mk ((by rw [hg]; exact Nat.ne_of_lt (blk_lt (g := gb133) (o := .cells #[.int .i64 t128, .int .i64 t129, .slice Ao93 t130.length co93] 29 (0, 0)) (KB_ BK133.out)) : gb133 ≠ gb178))
           have NB178_133 := Zz.mk NB133_178.out.symm
           have NB140_178 := Zz.mk ((by rw [hg]; exact Nat.ne_of_lt (blk_lt (g := gb140) (o := .cells #[.int .i64 t134, .int .i64 t135, .slice Ao104 t136.length co104] 29 (0, 0)) (KB_ BK140.out)) : gb140 ≠ gb178))
           have NB178_140 := Zz.mk NB140_178.out.symm
           replace HO109 := Zz.mk (Kd.S_below (KS_ HO109.out) hb)
           replace HO114 := Zz.mk (Kd.S_below (KS_ HO114.out) hb)
           replace HO119 := Zz.mk (Kd.S_below (KS_ HO119.out) hb)
           replace HO126 := Zz.mk (Kd.S_below (KS_ HO126.out) hb)
           replace HO132 := Zz.mk (Kd.S_below (KS_ HO132.out) hb)
           replace HO138 := Zz.mk (Kd.S_below (KS_ HO138.out) hb)
           replace HO146 := Zz.mk (Kd.S_below (KS_ HO146.out) hb)
           replace HO152 := Zz.mk (Kd.S_below (KS_ HO152.out) hb)
           replace BK101 := Zz.mk (bB_ (g := gb101) (o := .cells #[.int .i64 a0_0, .int .i64 a0_1, .slice A0_2 l0_2.length c0_2] 24 (0, 0)) (KB_ BK101.out) hb)
           replace BK102 := Zz.mk (bB_ (g := gb102) (o := .cells #[.int .i64 a1_0, .int .i64 a1_1, .slice A1_2 l1_2.length c1_2] 24 (0, 0)) (KB_ BK102.out) hb)
           replace BK121 := Zz.mk (bB_ (g := gb121) (o := .cells #[.int .i64 t115, .int .i64 t116, .slice Ao71 t117.length co71] 29 (0, 0)) (KB_ BK121.out) hb)
           replace BK127 := Zz.mk (bB_ (g := gb127) (o := .cells #[.int .i64 t122, .int .i64 t123, .slice Ao82 t124.length co82] 29 (0, 0)) (KB_ BK127.out) hb)
           replace BK133 := Zz.mk (bB_ (g := gb133) (o := .cells #[.int .i64 t128, .int .i64 t129, .slice Ao93 t130.length co93] 29 (0, 0)) (KB_ BK133.out) hb)
           replace BK140 := Zz.mk (bB_ (g := gb140) (o := .cells #[.int .i64 t134, .int .i64 t135, .slice Ao104 t136.length co104] 29 (0, 0)) (KB_ BK140.out) hb)
           replace HB := Zz.mk (bT_ (Bw6_ HB.out GE101.out GE102.out GE121.out GE127.out GE133.out GE140.out) hb)
           clear hb hbox hg
           refine hK.out _ _ ⟨(bC_ BK101.out 0).trans rfl, (bC_ BK101.out 1).trans rfl, (bC_ BK101.out 2).trans rfl, (bC_ BK102.out 0).trans rfl, (bC_ BK102.out 1).trans rfl, (bC_ BK102.out 2).trans rfl⟩ (fun hHeld => ?_)
           clear hK K
           refine NM_ (N := (some 15)) (h := ?_)
           refine one_ (i := 1) (N := some 96) (tb_ 11 263) rfl rfl (one_of HT_.out (by kernel_rfl)) (by decide) (fun K hK => ?_)
           refine GO_ Try.func13 #[.agg #[.int .i64 a0_0, .int .i64 a0_1, .slice A0_2 l0_2.length c0_2]] (h := ?_)
           with_reducible refine (z13.calls k a0_0 a0_1 _ _ l0_2 t162 t163 t164 _ ?side1 ?side2 A43.out).mono ?_
           (case side1 => exact KC_ (Kd.C_below HR0_2.out HB.out))
           (case side2 => exact HC0_2.out)
           rintro e w130 ⟨v165, rfl, ho0, hb⟩
           refine ⟨_, rfl, ?_⟩
           obtain ⟨nan131, hnan131⟩ := Kd.size_letter hb
           have HO166 := Zz.mk (Kd.S_lower (Kd.S_geN (Kd.S_new' (Kd.S_new' (Kd.S_new' (Kd.S_new' (Kd.S_new' (Kd.S_new' (Kd.S_new' (Kd.S_new' ho0 (Kd.S_lt (KS_ HO109.out))) (Kd.S_lt (KS_ HO114.out))) (Kd.S_lt (KS_ HO119.out))) (Kd.S_lt (KS_ HO126.out))) (Kd.S_lt (KS_ HO132.out))) (Kd.S_lt (KS_ HO138.out))) (Kd.S_lt (KS_ HO146.out))) (Kd.S_lt (KS_ HO152.out))) hnan131) (bS_ (Bw7_ HB.out GE101.out GE102.out GE121.out GE127.out GE133.out GE140.out GE178.out)))
           replace HO109 := Zz.mk (Kd.S_told (Kd.S_oldN (KS_ HO109.out) hb hnan131) (Kd.S_baseN ho0 hnan131))
           replace HO114 := Zz.mk (Kd.S_told (Kd.S_oldN (KS_ HO114.out) hb hnan131) (Kd.S_baseN ho0 hnan131))
           replace HO119 := Zz.mk (Kd.S_told (Kd.S_oldN (KS_ HO119.out) hb hnan131) (Kd.S_baseN ho0 hnan131))
           replace HO126 := Zz.mk (Kd.S_told (Kd.S_oldN (KS_ HO126.out) hb hnan131) (Kd.S_baseN ho0 hnan131))
           replace HO132 := Zz.mk (Kd.S_told (Kd.S_oldN (KS_ HO132.out) hb hnan131) (Kd.S_baseN ho0 hnan131))
           replace HO138 := Zz.mk (Kd.S_told (Kd.S_oldN (KS_ HO138.out) hb hnan131) (Kd.S_baseN ho0 hnan131))
           replace HO146 := Zz.mk (Kd.S_told (Kd.S_oldN (KS_ HO146.out) hb hnan131) (Kd.S_baseN ho0 hnan131))
           replace HO152 := Zz.mk (Kd.S_told (Kd.S_oldN (KS_ HO152.out) hb hnan131) (Kd.S_baseN ho0 hnan131))
           replace BK101 := Zz.mk (bB_ (g := gb101) (o := .cells #[.int .i64 a0_0, .int .i64 a0_1, .slice A0_2 l0_2.length c0_2] 24 (0, 0)) (KB_ BK101.out) hb)
           replace BK102 := Zz.mk (bB_ (g := gb102) (o := .cells #[.int .i64 a1_0, .int .i64 a1_1, .slice A1_2 l1_2.length c1_2] 24 (0, 0)) (KB_ BK102.out) hb)
           replace BK121 := Zz.mk (bB_ (g := gb121) (o := .cells #[.int .i64 t115, .int .i64 t116, .slice Ao71 t117.length co71] 29 (0, 0)) (KB_ BK121.out) hb)
           replace BK127 := Zz.mk (bB_ (g := gb127) (o := .cells #[.int .i64 t122, .int .i64 t123, .slice Ao82 t124.length co82] 29 (0, 0)) (KB_ BK127.out) hb)
           replace BK133 := Zz.mk (bB_ (g := gb133) (o := .cells #[.int .i64 t128, .int .i64 t129, .slice Ao93 t130.length co93] 29 (0, 0)) (KB_ BK133.out) hb)
           replace BK140 := Zz.mk (bB_ (g := gb140) (o := .cells #[.int .i64 t134, .int .i64 t135, .slice Ao104 t136.length co104] 29 (0, 0)) (KB_ BK140.out) hb)
           replace BK178 := Zz.mk (bB_ (g := gb178) (o := .cells #[.int .i64 0, .int .i64 0, .slice none 0 0] 29 (0, 0)) (KB_ BK178.out) hb)
           replace HB := Zz.mk (bT_ (Bw7_ HB.out GE101.out GE102.out GE121.out GE127.out GE133.out GE140.out GE178.out) hb)
           (try clear hb);(try clear hb2);(try clear hk);(try clear hi);(try clear ho0)
           refine hK.out _ _ ⟨(bC_ BK101.out 0).trans rfl, (bC_ BK101.out 1).trans rfl, (bC_ BK101.out 2).trans rfl, (bC_ BK102.out 0).trans rfl, (bC_ BK102.out 1).trans rfl, (bC_ BK102.out 2).trans rfl⟩ (fun hHeld => ?_)
           clear hK K
           refine NM_ (N := (some 96)) (h := ?_)
           refine one_ (i := 3) (N := some 98) (tb_ 11 271) rfl rfl (one_of HT_.out (by kernel_rfl)) (by decide) (fun K hK => ?_)
           refine GO_ Try.func13 #[.agg #[.int .i64 a1_0, .int .i64 a1_1, .slice A1_2 l1_2.length c1_2]] (h := ?_)
           with_reducible refine (z13.calls k a1_0 a1_1 _ _ l1_2 t167 t168 t169 _ ?side1 ?side2 A44.out).mono ?_
           (case side1 => exact KC_ (Kd.C_below HR1_2.out HB.out))
           (case side2 => exact HC1_2.out)
           rintro e w132 ⟨v170, rfl, ho0, hb⟩
           refine ⟨_, rfl, ?_⟩
           obtain ⟨nan133, hnan133⟩ := Kd.size_letter hb
           have HO171 := Zz.mk (Kd.S_lower (Kd.S_geN (Kd.S_new' (Kd.S_new' (Kd.S_new' (Kd.S_new' (Kd.S_new' (Kd.S_new' (Kd.S_new' (Kd.S_new' (Kd.S_new' ho0 (Kd.S_lt (KS_ HO109.out))) (Kd.S_lt (KS_ HO114.out))) (Kd.S_lt (KS_ HO119.out))) (Kd.S_lt (KS_ HO126.out))) (Kd.S_lt (KS_ HO132.out))) (Kd.S_lt (KS_ HO138.out))) (Kd.S_lt (KS_ HO146.out))) (Kd.S_lt (KS_ HO152.out))) (Kd.S_lt (KS_ HO166.out))) hnan133) (bS_ (Bw7_ HB.out GE101.out GE102.out GE121.out GE127.out GE133.out GE140.out GE178.out)))
           replace HO109 := Zz.mk (Kd.S_told (Kd.S_oldN (KS_ HO109.out) hb hnan133) (Kd.S_baseN ho0 hnan133))
           replace HO114 := Zz.mk (Kd.S_told (Kd.S_oldN (KS_ HO114.out) hb hnan133) (Kd.S_baseN ho0 hnan133))
           replace HO119 := Zz.mk (Kd.S_told (Kd.S_oldN (KS_ HO119.out) hb hnan133) (Kd.S_baseN ho0 hnan133))
           replace HO126 := Zz.mk (Kd.S_told (Kd.S_oldN (KS_ HO126.out) hb hnan133) (Kd.S_baseN ho0 hnan133))
           replace HO132 := Zz.mk (Kd.S_told (Kd.S_oldN (KS_ HO132.out) hb hnan133) (Kd.S_baseN ho0 hnan133))
           replace HO138 := Zz.mk (Kd.S_told (Kd.S_oldN (KS_ HO138.out) hb hnan133) (Kd.S_baseN ho0 hnan133))
           replace HO146 := Zz.mk (Kd.S_told (Kd.S_oldN (KS_ HO146.out) hb hnan133) (Kd.S_baseN ho0 hnan133))
           replace HO152 := Zz.mk (Kd.S_told (Kd.S_oldN (KS_ HO152.out) hb hnan133) (Kd.S_baseN ho0 hnan133))
           replace HO166 := Zz.mk (Kd.S_told (Kd.S_oldN (KS_ HO166.out) hb hnan133) (Kd.S_baseN ho0 hnan133))
           replace BK101 := Zz.mk (bB_ (g := gb101) (o := .cells #[.int .i64 a0_0, .int .i64 a0_1, .slice A0_2 l0_2.length c0_2] 24 (0, 0)) (KB_ BK101.out) hb)
           replace BK102 := Zz.mk (bB_ (g := gb102) (o := .cells #[.int .i64 a1_0, .int .i64 a1_1, .slice A1_2 l1_2.length c1_2] 24 (0, 0)) (KB_ BK102.out) hb)
           replace BK121 := Zz.mk (bB_ (g := gb121) (o := .cells #[.int .i64 t115, .int .i64 t116, .slice Ao71 t117.length co71] 29 (0, 0)) (KB_ BK121.out) hb)
           replace BK127 := Zz.mk (bB_ (g := gb127) (o := .cells #[.int .i64 t122, .int .i64 t123, .slice Ao82 t124.length co82] 29 (0, 0)) (KB_ BK127.out) hb)
           replace BK133 := Zz.mk (bB_ (g := gb133) (o := .cells #[.int .i64 t128, .int .i64 t129, .slice Ao93 t130.length co93] 29 (0, 0)) (KB_ BK133.out) hb)
           replace BK140 := Zz.mk (bB_ (g := gb140) (o := .cells #[.int .i64 t134, .int .i64 t135, .slice Ao104 t136.length co104] 29 (0, 0)) (KB_ BK140.out) hb)
           replace BK178 := Zz.mk (bB_ (g := gb178) (o := .cells #[.int .i64 0, .int .i64 0, .slice none 0 0] 29 (0, 0)) (KB_ BK178.out) hb)
           replace HB := Zz.mk (bT_ (Bw7_ HB.out GE101.out GE102.out GE121.out GE127.out GE133.out GE140.out GE178.out) hb)
           (try clear hb);(try clear hb2);(try clear hk);(try clear hi);(try clear ho0)
           obtain ⟨Ao134, co134, eo134⟩ := Kd.S_slice HO166.out
           (first | subst eo134 | (injection eo134 with f1_ f2_ f3_; have f4_ := f1_.symm; have f5_ := f3_.symm; clear f1_ f2_ f3_; subst f4_; subst f5_))
           obtain ⟨Ao135, co135, eo135⟩ := Kd.S_slice HO171.out
           (first | subst eo135 | (injection eo135 with f1_ f2_ f3_; have f4_ := f1_.symm; have f5_ := f3_.symm; clear f1_ f2_ f3_; subst f4_; subst f5_))
           refine hK.out _ _ ⟨(bC_ BK101.out 0).trans rfl, (bC_ BK101.out 1).trans rfl, (bC_ BK101.out 2).trans rfl, (bC_ BK102.out 0).trans rfl, (bC_ BK102.out 1).trans rfl, (bC_ BK102.out 2).trans rfl⟩ (fun hHeld => ?_)
           clear hK K
           refine NM_ (N := (some 98)) (h := ?_)
           refine one_ (i := 4) (N := some 99) (tb_ 11 287) rfl rfl (one_of HT_.out (by kernel_rfl)) (by decide) (fun K hK => ?_)
           refine GO_ Try.func22 #[.agg #[.int .i64 t162, .int .i64 t163, .slice Ao134 t164.length co134], .agg #[.int .i64 t167, .int .i64 t168, .slice Ao135 t169.length co135]] (h := ?_)
           with_reducible refine (z22.calls k t162 t163 _ _ t164 t167 t168 _ _ t169 t172 t173 t174 t177 _ ?side1 ?side2 ?side3 ?side4 A45.out).mono ?_
           (case side1 => exact KC_ (Kd.S_reads' HO166.out).2.2)
           (case side2 => exact (Kd.S_reads' HO166.out).2.1)
           (case side3 => exact KC_ (Kd.S_reads' HO171.out).2.2)
           (case side4 => exact (Kd.S_reads' HO171.out).2.1)
           rintro e w136 ⟨v175, rfl, ho0, hb⟩
           refine ⟨_, rfl, ?_⟩
           obtain ⟨nan137, hnan137⟩ := Kd.size_letter hb
           have HO176 := Zz.mk (Kd.S_lower (Kd.S_geN (Kd.S_new' (Kd.S_new' (Kd.S_new' (Kd.S_new' (Kd.S_new' (Kd.S_new' (Kd.S_new' (Kd.S_new' (Kd.S_new' (Kd.S_new' ho0 (Kd.S_lt (KS_ HO109.out))) (Kd.S_lt (KS_ HO114.out))) (Kd.S_lt (KS_ HO119.out))) (Kd.S_lt (KS_ HO126.out))) (Kd.S_lt (KS_ HO132.out))) (Kd.S_lt (KS_ HO138.out))) (Kd.S_lt (KS_ HO146.out))) (Kd.S_lt (KS_ HO152.out))) (Kd.S_lt (KS_ HO166.out))) (Kd.S_lt (KS_ HO171.out))) hnan137) (bS_ (Bw7_ HB.out GE101.out GE102.out GE121.out GE127.out GE133.out GE140.out GE178.out)))
           replace HO109 := Zz.mk (Kd.S_told (Kd.S_oldN (KS_ HO109.out) hb hnan137) (Kd.S_baseN ho0 hnan137))
           replace HO114 := Zz.mk (Kd.S_told (Kd.S_oldN (KS_ HO114.out) hb hnan137) (Kd.S_baseN ho0 hnan137))
           replace HO119 := Zz.mk (Kd.S_told (Kd.S_oldN (KS_ HO119.out) hb hnan137) (Kd.S_baseN ho0 hnan137))
           replace HO126 := Zz.mk (Kd.S_told (Kd.S_oldN (KS_ HO126.out) hb hnan137) (Kd.S_baseN ho0 hnan137))
           replace HO132 := Zz.mk (Kd.S_told (Kd.S_oldN (KS_ HO132.out) hb hnan137) (Kd.S_baseN ho0 hnan137))
           replace HO138 := Zz.mk (Kd.S_told (Kd.S_oldN (KS_ HO138.out) hb hnan137) (Kd.S_baseN ho0 hnan137))
           replace HO146 := Zz.mk (Kd.S_told (Kd.S_oldN (KS_ HO146.out) hb hnan137) (Kd.S_baseN ho0 hnan137))
           replace HO152 := Zz.mk (Kd.S_told (Kd.S_oldN (KS_ HO152.out) hb hnan137) (Kd.S_baseN ho0 hnan137))
           replace HO166 := Zz.mk (Kd.S_told (Kd.S_oldN (KS_ HO166.out) hb hnan137) (Kd.S_baseN ho0 hnan137))
           replace HO171 := Zz.mk (Kd.S_told (Kd.S_oldN (KS_ HO171.out) hb hnan137) (Kd.S_baseN ho0 hnan137))
           replace BK101 := Zz.mk (bB_ (g := gb101) (o := .cells #[.int .i64 a0_0, .int .i64 a0_1, .slice A0_2 l0_2.length c0_2] 24 (0, 0)) (KB_ BK101.out) hb)
           replace BK102 := Zz.mk (bB_ (g := gb102) (o := .cells #[.int .i64 a1_0, .int .i64 a1_1, .slice A1_2 l1_2.length c1_2] 24 (0, 0)) (KB_ BK102.out) hb)
           replace BK121 := Zz.mk (bB_ (g := gb121) (o := .cells #[.int .i64 t115, .int .i64 t116, .slice Ao71 t117.length co71] 29 (0, 0)) (KB_ BK121.out) hb)
           replace BK127 := Zz.mk (bB_ (g := gb127) (o := .cells #[.int .i64 t122, .int .i64 t123, .slice Ao82 t124.length co82] 29 (0, 0)) (KB_ BK127.out) hb)
           replace BK133 := Zz.mk (bB_ (g := gb133) (o := .cells #[.int .i64 t128, .int .i64 t129, .slice Ao93 t130.length co93] 29 (0, 0)) (KB_ BK133.out) hb)
           replace BK140 := Zz.mk (bB_ (g := gb140) (o := .cells #[.int .i64 t134, .int .i64 t135, .slice Ao104 t136.length co104] 29 (0, 0)) (KB_ BK140.out) hb)
           replace BK178 := Zz.mk (bB_ (g := gb178) (o := .cells #[.int .i64 0, .int .i64 0, .slice none 0 0] 29 (0, 0)) (KB_ BK178.out) hb)
           replace HB := Zz.mk (bT_ (Bw7_ HB.out GE101.out GE102.out GE121.out GE127.out GE133.out GE140.out GE178.out) hb)
           (try clear hb);(try clear hb2);(try clear hk);(try clear hi);(try clear ho0)
           refine hK.out _ _ ⟨(bC_ BK101.out 0).trans rfl, (bC_ BK101.out 1).trans rfl, (bC_ BK101.out 2).trans rfl, (bC_ BK102.out 0).trans rfl, (bC_ BK102.out 1).trans rfl, (bC_ BK102.out 2).trans rfl⟩ (fun hHeld => ?_)
           clear hK K
           refine NM_ (N := (some 99)) (h := ?_)
           refine PX_ 5 94 (tb_ 11 319) HT_ rfl rfl ?_
           refine PX_ 6 100 (tb_ 11 383) HT_ rfl rfl ?_
           refine PX_ 7 101 (tb_ 11 511) HT_ rfl rfl ?_
           exact norm_ (by simp only [putAll, Act.put, List.setIfInBounds_toArray, List.set_cons_zero, List.set_cons_succ]) (hCont (.slice Ao134 t164.length co134, .slice Ao135 t169.length co135, v175, gb178) _ ⟨hHeld, (by refine SW_ ?_; exact Kd.S_mono HO109.out (fun _ hk => ⟨hk.1.1.1.1.1.1.1.1.1.1.1.1.1.1.1.1.1, ⟨hk.1.1.1.1.1.1.1.1.1.1.1.1.1.1.1.1.2, ⟨hk.1.1.1.1.1.1.1.1.1.1.1.1.1.1.1.2, ⟨hk.1.1.1.1.1.1.1.1.1.1.1.1.1.2, ⟨hk.1.1.1.1.1.1.1.1.1.1.1.2, ⟨hk.1.1.1.1.1.1.1.1.1.2, ⟨hk.1.1.1.1.1.1.1.2, ⟨hk.1.1.1.1.1.2, ⟨hk.1.1.1.2, ⟨hk.1.2, ⟨hk.1.1.1.1.1.1.1.1.1.1.1.1.1.1.2, ⟨hk.1.1.1.1.1.1.1.1.1.1.1.1.2, ⟨hk.1.1.1.1.1.1.1.1.1.1.2, ⟨hk.1.1.1.1.1.1.1.1.2, hk.1.1.1.1.1.1.2⟩⟩⟩⟩⟩⟩⟩⟩⟩⟩⟩⟩⟩⟩)), (by refine SW_ ?_; exact Kd.S_mono HO114.out (fun _ hk => ⟨hk.1.1.1.1.1.1.1.1.1.1.1.1.1.1.1.1.1, ⟨hk.1.1.1.1.1.1.1.1.1.1.1.1.1.1.1.1.2, ⟨hk.1.1.1.1.1.1.1.1.1.1.1.1.1.1.1.2, ⟨hk.1.1.1.1.1.1.1.1.1.1.1.1.1.2, ⟨hk.1.1.1.1.1.1.1.1.1.1.1.2, ⟨hk.1.1.1.1.1.1.1.1.1.2, ⟨hk.1.1.1.1.1.1.1.2, ⟨hk.1.1.1.1.1.2, ⟨hk.1.1.1.2, ⟨hk.1.2, ⟨hk.1.1.1.1.1.1.1.1.1.1.1.1.1.1.2, ⟨hk.1.1.1.1.1.1.1.1.1.1.1.1.2, ⟨hk.1.1.1.1.1.1.1.1.1.1.2, ⟨hk.1.1.1.1.1.1.1.1.2, hk.1.1.1.1.1.1.2⟩⟩⟩⟩⟩⟩⟩⟩⟩⟩⟩⟩⟩⟩)), (by refine SW_ ?_; exact Kd.S_mono HO119.out (fun _ hk => ⟨hk.1.1.1.1.1.1.1.1.1.1.1.1.1.1.1.1.1, ⟨hk.1.1.1.1.1.1.1.1.1.1.1.1.1.1.1.1.2, ⟨hk.1.1.1.1.1.1.1.1.1.1.1.1.1.1.1.2, ⟨hk.1.1.1.1.1.1.1.1.1.1.1.1.1.2, ⟨hk.1.1.1.1.1.1.1.1.1.1.1.2, ⟨hk.1.1.1.1.1.1.1.1.1.2, ⟨hk.1.1.1.1.1.1.1.2, ⟨hk.1.1.1.1.1.2, ⟨hk.1.1.1.2, ⟨hk.1.2, ⟨hk.1.1.1.1.1.1.1.1.1.1.1.1.1.1.2, ⟨hk.1.1.1.1.1.1.1.1.1.1.1.1.2, ⟨hk.1.1.1.1.1.1.1.1.1.1.2, ⟨hk.1.1.1.1.1.1.1.1.2, hk.1.1.1.1.1.1.2⟩⟩⟩⟩⟩⟩⟩⟩⟩⟩⟩⟩⟩⟩)), (by refine SW_ ?_; exact Kd.S_mono HO126.out (fun _ hk => ⟨hk.1.1.1.1.1.1.1.1.1.1.1.1.1.1.1.1.1.2, ⟨hk.1.1.1.1.1.1.1.1.1.1.1.1.1.1.1.1.2, ⟨hk.1.1.1.1.1.1.1.1.1.1.1.1.1.1.1.2, ⟨hk.1.1.1.1.1.1.1.1.1.1.1.1.1.2, ⟨hk.1.1.1.1.1.1.1.1.1.1.1.2, ⟨hk.1.1.1.1.1.1.1.1.1.2, ⟨hk.1.1.1.1.1.1.1.2, ⟨hk.1.1.1.1.1.2, ⟨hk.1.1.1.2, ⟨hk.1.2, ⟨hk.1.1.1.1.1.1.1.1.1.1.1.1.1.1.2, ⟨hk.1.1.1.1.1.1.1.1.1.1.1.1.2, ⟨hk.1.1.1.1.1.1.1.1.1.1.2, ⟨hk.1.1.1.1.1.1.1.1.2, hk.1.1.1.1.1.1.2⟩⟩⟩⟩⟩⟩⟩⟩⟩⟩⟩⟩⟩⟩)), (by refine SW_ ?_; exact Kd.S_mono HO132.out (fun _ hk => ⟨hk.1.1.1.1.1.1.1.1.1.1.1.1.1.1.1.1.2, ⟨hk.1.1.1.1.1.1.1.1.1.1.1.1.1.1.1.2, ⟨hk.1.1.1.1.1.1.1.1.1.1.1.1.1.1.2, ⟨hk.1.1.1.1.1.1.1.1.1.1.1.1.1.2, ⟨hk.1.1.1.1.1.1.1.1.1.1.1.2, ⟨hk.1.1.1.1.1.1.1.1.1.2, ⟨hk.1.1.1.1.1.1.1.2, ⟨hk.1.1.1.1.1.2, ⟨hk.1.1.1.2, ⟨hk.1.2, ⟨hk.1.1.1.1.1.1.1.1.1.1.1.1.2, ⟨hk.1.1.1.1.1.1.1.1.1.1.2, ⟨hk.1.1.1.1.1.1.1.1.2, hk.1.1.1.1.1.1.2⟩⟩⟩⟩⟩⟩⟩⟩⟩⟩⟩⟩⟩)), (by refine SW_ ?_; exact Kd.S_mono HO138.out (fun _ hk => ⟨hk.1.1.1.1.1.1.1.1.1.1.1.1.1.1.1.2, ⟨hk.1.1.1.1.1.1.1.1.1.1.1.1.1.1.2, ⟨hk.1.1.1.1.1.1.1.1.1.1.1.1.1.2, ⟨hk.1.1.1.1.1.1.1.1.1.1.1.1.2, ⟨hk.1.1.1.1.1.1.1.1.1.1.1.2, ⟨hk.1.1.1.1.1.1.1.1.1.2, ⟨hk.1.1.1.1.1.1.1.2, ⟨hk.1.1.1.1.1.2, ⟨hk.1.1.1.2, ⟨hk.1.2, ⟨hk.1.1.1.1.1.1.1.1.1.1.2, ⟨hk.1.1.1.1.1.1.1.1.2, hk.1.1.1.1.1.1.2⟩⟩⟩⟩⟩⟩⟩⟩⟩⟩⟩⟩)), (by refine SW_ ?_; exact Kd.S_mono HO146.out (fun _ hk => ⟨hk.1.1.1.1.1.1.1.1.1.1.1.1.1.1.2, ⟨hk.1.1.1.1.1.1.1.1.1.1.1.1.1.2, ⟨hk.1.1.1.1.1.1.1.1.1.1.1.1.2, ⟨hk.1.1.1.1.1.1.1.1.1.1.1.2, ⟨hk.1.1.1.1.1.1.1.1.1.1.2, ⟨hk.1.1.1.1.1.1.1.1.1.2, ⟨hk.1.1.1.1.1.1.1.2, ⟨hk.1.1.1.1.1.2, ⟨hk.1.1.1.2, ⟨hk.1.2, ⟨hk.1.1.1.1.1.1.1.1.2, hk.1.1.1.1.1.1.2⟩⟩⟩⟩⟩⟩⟩⟩⟩⟩⟩)), (by refine SW_ ?_; exact Kd.S_mono HO152.out (fun _ hk => ⟨hk.1.1.1.1.1.1.1.1.1.1.1.1.1.2, ⟨hk.1.1.1.1.1.1.1.1.1.1.1.1.2, ⟨hk.1.1.1.1.1.1.1.1.1.1.1.2, ⟨hk.1.1.1.1.1.1.1.1.1.1.2, ⟨hk.1.1.1.1.1.1.1.1.1.2, ⟨hk.1.1.1.1.1.1.1.1.2, ⟨hk.1.1.1.1.1.1.1.2, ⟨hk.1.1.1.1.1.2, ⟨hk.1.1.1.2, ⟨hk.1.2, hk.1.1.1.1.1.1.2⟩⟩⟩⟩⟩⟩⟩⟩⟩⟩)), (by refine SW_ ?_; exact Kd.S_mono HO166.out (fun _ hk => ⟨hk.1.1.1.1.1.1.1.1.1.1.1.1.2, ⟨hk.1.1.1.1.1.1.1.1.1.1.1.2, ⟨hk.1.1.1.1.1.1.1.1.1.1.2, ⟨hk.1.1.1.1.1.1.1.1.1.2, ⟨hk.1.1.1.1.1.1.1.1.2, ⟨hk.1.1.1.1.1.1.1.2, ⟨hk.1.1.1.1.1.1.2, ⟨hk.1.1.1.1.1.2, ⟨hk.1.1.1.2, hk.1.2⟩⟩⟩⟩⟩⟩⟩⟩⟩)), (by refine SW_ ?_; exact Kd.S_mono HO171.out (fun _ hk => ⟨hk.1.1.1.1.1.1.1.1.1.1.1.2, ⟨hk.1.1.1.1.1.1.1.1.1.1.2, ⟨hk.1.1.1.1.1.1.1.1.1.2, ⟨hk.1.1.1.1.1.1.1.1.2, ⟨hk.1.1.1.1.1.1.1.2, ⟨hk.1.1.1.1.1.1.2, ⟨hk.1.1.1.1.1.2, ⟨hk.1.1.1.1.2, ⟨hk.1.1.1.2, hk.1.2⟩⟩⟩⟩⟩⟩⟩⟩⟩)), (by refine SW_ ?_; exact Kd.S_mono HO176.out (fun _ hk => ⟨hk.1.1.1.1.1.1.1.1.1.1.2, ⟨hk.1.1.1.1.1.1.1.1.1.2, ⟨hk.1.1.1.1.1.1.1.1.2, ⟨hk.1.1.1.1.1.1.1.2, ⟨hk.1.1.1.1.1.1.2, ⟨hk.1.1.1.1.1.2, ⟨hk.1.1.1.1.2, ⟨hk.1.1.1.2, ⟨hk.1.1.2, hk.1.2⟩⟩⟩⟩⟩⟩⟩⟩⟩)), (KB_ BK101.out), (KB_ BK102.out), (KB_ BK121.out), (KB_ BK127.out), (KB_ BK133.out), (KB_ BK140.out), (KB_ BK178.out), GW178.out, GE178.out, NB101_178.out, NB178_101.out, NB102_178.out, NB178_102.out, NB121_178.out, NB178_121.out, NB127_178.out, NB178_127.out, NB133_178.out, NB178_133.out, NB140_178.out, NB178_140.out, (Bw7_ HB.out GE101.out GE102.out GE121.out GE127.out GE133.out GE140.out GE178.out)⟩)
          rintro ⟨v165, v170, v175, gb178⟩ w138 ⟨hS_, h0_, h1_, h2_, h3_, h4_, h5_, h6_, h7_, h8_, h9_, h10_, h11_, h12_, h13_, h14_, h15_, h16_, h17_, h18_, h19_, h20_, h21_, h22_, h23_, h24_, h25_, h26_, h27_, h28_, h29_, h30_, h31_, h32_⟩
          have HO166 : Zz (Kd.S (Kd.slice 2 (Kd.int .i64)) 25 w138 w.heap.size (fun k_ => some k_ ≠ (v108 : Value).ownBlock ∧ some k_ ≠ (v113 : Value).ownBlock ∧ some k_ ≠ (.slice Ao71 t117.length co71 : Value).ownBlock ∧ some k_ ≠ (.slice Ao82 t124.length co82 : Value).ownBlock ∧ some k_ ≠ (.slice Ao93 t130.length co93 : Value).ownBlock ∧ some k_ ≠ (.slice Ao104 t136.length co104 : Value).ownBlock ∧ some k_ ≠ (.slice Ao110 t144.length co110 : Value).ownBlock ∧ some k_ ≠ (.slice Ao115 t150.length co115 : Value).ownBlock ∧ some k_ ≠ (v170 : Value).ownBlock ∧ some k_ ≠ (v175 : Value).ownBlock) v165 t164) := ⟨h8_⟩
          have HO171 : Zz (Kd.S (Kd.slice 2 (Kd.int .i64)) 25 w138 w.heap.size (fun k_ => some k_ ≠ (v108 : Value).ownBlock ∧ some k_ ≠ (v113 : Value).ownBlock ∧ some k_ ≠ (.slice Ao71 t117.length co71 : Value).ownBlock ∧ some k_ ≠ (.slice Ao82 t124.length co82 : Value).ownBlock ∧ some k_ ≠ (.slice Ao93 t130.length co93 : Value).ownBlock ∧ some k_ ≠ (.slice Ao104 t136.length co104 : Value).ownBlock ∧ some k_ ≠ (.slice Ao110 t144.length co110 : Value).ownBlock ∧ some k_ ≠ (.slice Ao115 t150.length co115 : Value).ownBlock ∧ some k_ ≠ (v165 : Value).ownBlock ∧ some k_ ≠ (v175 : Value).ownBlock) v170 t169) := ⟨h9_⟩
          have HO176 : Zz (Kd.S (Kd.slice 2 (Kd.int .i64)) 25 w138 w.heap.size (fun k_ => some k_ ≠ (v108 : Value).ownBlock ∧ some k_ ≠ (v113 : Value).ownBlock ∧ some k_ ≠ (.slice Ao71 t117.length co71 : Value).ownBlock ∧ some k_ ≠ (.slice Ao82 t124.length co82 : Value).ownBlock ∧ some k_ ≠ (.slice Ao93 t130.length co93 : Value).ownBlock ∧ some k_ ≠ (.slice Ao104 t136.length co104 : Value).ownBlock ∧ some k_ ≠ (.slice Ao110 t144.length co110 : Value).ownBlock ∧ some k_ ≠ (.slice Ao115 t150.length co115 : Value).ownBlock ∧ some k_ ≠ (v165 : Value).ownBlock ∧ some k_ ≠ (v170 : Value).ownBlock) v175 t174) := ⟨h10_⟩
          have BK178 : Zz (w138.heap[gb178]? = some (.cells #[.int .i64 0, .int .i64 0, .slice none 0 0] 29 (0, 0))) := ⟨h17_⟩
          have GW178 : Zz (w.heap.size ≤ gb178) := ⟨h18_⟩
          have GE178 : Zz (w.heap.size ≤ gb178) := ⟨h19_⟩
          have NB101_178 : Zz (gb101 ≠ gb178) := ⟨h20_⟩
          have NB178_101 : Zz (gb178 ≠ gb101) := ⟨h21_⟩
          have NB102_178 : Zz (gb102 ≠ gb178) := ⟨h22_⟩
          have NB178_102 : Zz (gb178 ≠ gb102) := ⟨h23_⟩
          have NB121_178 : Zz (gb121 ≠ gb178) := ⟨h24_⟩
          have NB178_121 : Zz (gb178 ≠ gb121) := ⟨h25_⟩
          have NB127_178 : Zz (gb127 ≠ gb178) := ⟨h26_⟩
          have NB178_127 : Zz (gb178 ≠ gb127) := ⟨h27_⟩
          have NB133_178 : Zz (gb133 ≠ gb178) := ⟨h28_⟩
          have NB178_133 : Zz (gb178 ≠ gb133) := ⟨h29_⟩
          have NB140_178 : Zz (gb140 ≠ gb178) := ⟨h30_⟩
          have NB178_140 : Zz (gb178 ≠ gb140) := ⟨h31_⟩
          replace HO109 : Zz (Kd.S (Kd.slice 2 (Kd.int .i64)) 25 w138 w.heap.size (fun k_ => some k_ ≠ (v113 : Value).ownBlock ∧ some k_ ≠ (.slice Ao71 t117.length co71 : Value).ownBlock ∧ some k_ ≠ (.slice Ao82 t124.length co82 : Value).ownBlock ∧ some k_ ≠ (.slice Ao93 t130.length co93 : Value).ownBlock ∧ some k_ ≠ (.slice Ao104 t136.length co104 : Value).ownBlock ∧ some k_ ≠ (.slice Ao110 t144.length co110 : Value).ownBlock ∧ some k_ ≠ (.slice Ao115 t150.length co115 : Value).ownBlock ∧ some k_ ≠ (v165 : Value).ownBlock ∧ some k_ ≠ (v170 : Value).ownBlock ∧ some k_ ≠ (v175 : Value).ownBlock ∧ k_ < nan76 ∧ k_ < nan86 ∧ k_ < nan96 ∧ k_ < nan109 ∧ k_ < nan114) v108 t107) := ⟨h0_⟩
          replace HO114 : Zz (Kd.S (Kd.slice 2 (Kd.int .i64)) 25 w138 w.heap.size (fun k_ => some k_ ≠ (v108 : Value).ownBlock ∧ some k_ ≠ (.slice Ao71 t117.length co71 : Value).ownBlock ∧ some k_ ≠ (.slice Ao82 t124.length co82 : Value).ownBlock ∧ some k_ ≠ (.slice Ao93 t130.length co93 : Value).ownBlock ∧ some k_ ≠ (.slice Ao104 t136.length co104 : Value).ownBlock ∧ some k_ ≠ (.slice Ao110 t144.length co110 : Value).ownBlock ∧ some k_ ≠ (.slice Ao115 t150.length co115 : Value).ownBlock ∧ some k_ ≠ (v165 : Value).ownBlock ∧ some k_ ≠ (v170 : Value).ownBlock ∧ some k_ ≠ (v175 : Value).ownBlock ∧ k_ < nan76 ∧ k_ < nan86 ∧ k_ < nan96 ∧ k_ < nan109 ∧ k_ < nan114) v113 t112) := ⟨h1_⟩
          replace HO119 : Zz (Kd.S (Kd.slice 2 (Kd.int .i64)) 25 w138 w.heap.size (fun k_ => some k_ ≠ (v108 : Value).ownBlock ∧ some k_ ≠ (v113 : Value).ownBlock ∧ some k_ ≠ (.slice Ao82 t124.length co82 : Value).ownBlock ∧ some k_ ≠ (.slice Ao93 t130.length co93 : Value).ownBlock ∧ some k_ ≠ (.slice Ao104 t136.length co104 : Value).ownBlock ∧ some k_ ≠ (.slice Ao110 t144.length co110 : Value).ownBlock ∧ some k_ ≠ (.slice Ao115 t150.length co115 : Value).ownBlock ∧ some k_ ≠ (v165 : Value).ownBlock ∧ some k_ ≠ (v170 : Value).ownBlock ∧ some k_ ≠ (v175 : Value).ownBlock ∧ k_ < nan76 ∧ k_ < nan86 ∧ k_ < nan96 ∧ k_ < nan109 ∧ k_ < nan114) (.slice Ao71 t117.length co71) t117) := ⟨h2_⟩
          replace HO126 : Zz (Kd.S (Kd.slice 2 (Kd.int .i64)) 25 w138 w.heap.size (fun k_ => some k_ ≠ (v108 : Value).ownBlock ∧ some k_ ≠ (v113 : Value).ownBlock ∧ some k_ ≠ (.slice Ao71 t117.length co71 : Value).ownBlock ∧ some k_ ≠ (.slice Ao93 t130.length co93 : Value).ownBlock ∧ some k_ ≠ (.slice Ao104 t136.length co104 : Value).ownBlock ∧ some k_ ≠ (.slice Ao110 t144.length co110 : Value).ownBlock ∧ some k_ ≠ (.slice Ao115 t150.length co115 : Value).ownBlock ∧ some k_ ≠ (v165 : Value).ownBlock ∧ some k_ ≠ (v170 : Value).ownBlock ∧ some k_ ≠ (v175 : Value).ownBlock ∧ nan76 ≤ k_ ∧ k_ < nan86 ∧ k_ < nan96 ∧ k_ < nan109 ∧ k_ < nan114) (.slice Ao82 t124.length co82) t155) := ⟨h3_⟩
          replace HO132 : Zz (Kd.S (Kd.slice 2 (Kd.int .i64)) 25 w138 w.heap.size (fun k_ => some k_ ≠ (v108 : Value).ownBlock ∧ some k_ ≠ (v113 : Value).ownBlock ∧ some k_ ≠ (.slice Ao71 t117.length co71 : Value).ownBlock ∧ some k_ ≠ (.slice Ao82 t124.length co82 : Value).ownBlock ∧ some k_ ≠ (.slice Ao104 t136.length co104 : Value).ownBlock ∧ some k_ ≠ (.slice Ao110 t144.length co110 : Value).ownBlock ∧ some k_ ≠ (.slice Ao115 t150.length co115 : Value).ownBlock ∧ some k_ ≠ (v165 : Value).ownBlock ∧ some k_ ≠ (v170 : Value).ownBlock ∧ some k_ ≠ (v175 : Value).ownBlock ∧ nan86 ≤ k_ ∧ k_ < nan96 ∧ k_ < nan109 ∧ k_ < nan114) (.slice Ao93 t130.length co93) t157) := ⟨h4_⟩
          replace HO138 : Zz (Kd.S (Kd.slice 2 (Kd.int .i64)) 25 w138 w.heap.size (fun k_ => some k_ ≠ (v108 : Value).ownBlock ∧ some k_ ≠ (v113 : Value).ownBlock ∧ some k_ ≠ (.slice Ao71 t117.length co71 : Value).ownBlock ∧ some k_ ≠ (.slice Ao82 t124.length co82 : Value).ownBlock ∧ some k_ ≠ (.slice Ao93 t130.length co93 : Value).ownBlock ∧ some k_ ≠ (.slice Ao110 t144.length co110 : Value).ownBlock ∧ some k_ ≠ (.slice Ao115 t150.length co115 : Value).ownBlock ∧ some k_ ≠ (v165 : Value).ownBlock ∧ some k_ ≠ (v170 : Value).ownBlock ∧ some k_ ≠ (v175 : Value).ownBlock ∧ nan96 ≤ k_ ∧ k_ < nan109 ∧ k_ < nan114) (.slice Ao104 t136.length co104) t160) := ⟨h5_⟩
          replace HO146 : Zz (Kd.S (Kd.slice 2 (Kd.int .i64)) 25 w138 w.heap.size (fun k_ => some k_ ≠ (v108 : Value).ownBlock ∧ some k_ ≠ (v113 : Value).ownBlock ∧ some k_ ≠ (.slice Ao71 t117.length co71 : Value).ownBlock ∧ some k_ ≠ (.slice Ao82 t124.length co82 : Value).ownBlock ∧ some k_ ≠ (.slice Ao93 t130.length co93 : Value).ownBlock ∧ some k_ ≠ (.slice Ao104 t136.length co104 : Value).ownBlock ∧ some k_ ≠ (.slice Ao115 t150.length co115 : Value).ownBlock ∧ some k_ ≠ (v165 : Value).ownBlock ∧ some k_ ≠ (v170 : Value).ownBlock ∧ some k_ ≠ (v175 : Value).ownBlock ∧ nan109 ≤ k_ ∧ k_ < nan114) (.slice Ao110 t144.length co110) t144) := ⟨h6_⟩
          replace HO152 : Zz (Kd.S (Kd.slice 2 (Kd.int .i64)) 25 w138 w.heap.size (fun k_ => some k_ ≠ (v108 : Value).ownBlock ∧ some k_ ≠ (v113 : Value).ownBlock ∧ some k_ ≠ (.slice Ao71 t117.length co71 : Value).ownBlock ∧ some k_ ≠ (.slice Ao82 t124.length co82 : Value).ownBlock ∧ some k_ ≠ (.slice Ao93 t130.length co93 : Value).ownBlock ∧ some k_ ≠ (.slice Ao104 t136.length co104 : Value).ownBlock ∧ some k_ ≠ (.slice Ao110 t144.length co110 : Value).ownBlock ∧ some k_ ≠ (v165 : Value).ownBlock ∧ some k_ ≠ (v170 : Value).ownBlock ∧ some k_ ≠ (v175 : Value).ownBlock ∧ nan114 ≤ k_) (.slice Ao115 t150.length co115) t150) := ⟨h7_⟩
          replace BK101 : Zz (w138.heap[gb101]? = some (.cells #[.int .i64 a0_0, .int .i64 a0_1, .slice A0_2 l0_2.length c0_2] 24 (0, 0))) := ⟨h11_⟩
          replace BK102 : Zz (w138.heap[gb102]? = some (.cells #[.int .i64 a1_0, .int .i64 a1_1, .slice A1_2 l1_2.length c1_2] 24 (0, 0))) := ⟨h12_⟩
          replace BK121 : Zz (w138.heap[gb121]? = some (.cells #[.int .i64 t115, .int .i64 t116, .slice Ao71 t117.length co71] 29 (0, 0))) := ⟨h13_⟩
          replace BK127 : Zz (w138.heap[gb127]? = some (.cells #[.int .i64 t122, .int .i64 t123, .slice Ao82 t124.length co82] 29 (0, 0))) := ⟨h14_⟩
          replace BK133 : Zz (w138.heap[gb133]? = some (.cells #[.int .i64 t128, .int .i64 t129, .slice Ao93 t130.length co93] 29 (0, 0))) := ⟨h15_⟩
          replace BK140 : Zz (w138.heap[gb140]? = some (.cells #[.int .i64 t134, .int .i64 t135, .slice Ao104 t136.length co104] 29 (0, 0))) := ⟨h16_⟩
          replace HB : Zz (Below w.heap.size w w138) := ⟨h32_⟩
          (try clear h0_)
          (try clear h1_)
          (try clear h2_)
          (try clear h3_)
          (try clear h4_)
          (try clear h5_)
          (try clear h6_)
          (try clear h7_)
          (try clear h8_)
          (try clear h9_)
          (try clear h10_)
          (try clear h11_)
          (try clear h12_)
          (try clear h13_)
          (try clear h14_)
          (try clear h15_)
          (try clear h16_)
          (try clear h17_)
          (try clear h18_)
          (try clear h19_)
          (try clear h20_)
          (try clear h21_)
          (try clear h22_)
          (try clear h23_)
          (try clear h24_)
          (try clear h25_)
          (try clear h26_)
          (try clear h27_)
          (try clear h28_)
          (try clear h29_)
          (try clear h30_)
          (try clear h31_)
          (try clear h32_)
          have hHeld : w138.cell? ⟨gb101, 0, none⟩ = some (.int .i64 a0_0) ∧ w138.cell? ⟨gb101, 1, none⟩ = some (.int .i64 a0_1) ∧ w138.cell? ⟨gb101, 2, none⟩ = some (.slice A0_2 l0_2.length c0_2) ∧ w138.cell? ⟨gb102, 0, none⟩ = some (.int .i64 a1_0) ∧ w138.cell? ⟨gb102, 1, none⟩ = some (.int .i64 a1_1) ∧ w138.cell? ⟨gb102, 2, none⟩ = some (.slice A1_2 l1_2.length c1_2) := hS_
          obtain ⟨Ao141, co141, eo141⟩ := Kd.S_slice HO176.out
          (first | subst eo141 | (injection eo141 with f1_ f2_ f3_; have f4_ := f1_.symm; have f5_ := f3_.symm; clear f1_ f2_ f3_; subst f4_; subst f5_))
          refine norm_ (a' := ?_) ?_ ?_
          rotate_left
          ·simp only [putAll, Act.put, List.setIfInBounds_toArray, List.set_cons_zero, List.set_cons_succ]
           rfl
          refine one_ (i := 9) (N := none) (tb_ 11 1023) rfl rfl (one_of HT_.out (by kernel_rfl)) (by decide) (fun K hK => ?_)
          have hs139 : w138.cell? ⟨gb178, 0, none⟩ = some (.int .i64 0) := (bC_ BK178.out 0).trans rfl
          have hfs139 := bF_ BK178.out 0
          have hns139_0 := NB101_178.out
          have hns139_1 := NB102_178.out
          have hns139_2 := NB121_178.out
          have hns139_3 := NB127_178.out
          have hns139_4 := NB133_178.out
          have hns139_5 := NB140_178.out
          have hms139_0 := NB178_101.out
          have hms139_1 := NB178_102.out
          have hms139_2 := NB178_121.out
          have hms139_3 := NB178_127.out
          have hms139_4 := NB178_133.out
          have hms139_5 := NB178_140.out
          have hs140 : w138.cell? ⟨gb178, 1, none⟩ = some (.int .i64 0) := (bC_ BK178.out 1).trans rfl
          have hfs140 := bF_ BK178.out 1
          have hns140_0 := NB101_178.out
          have hns140_1 := NB102_178.out
          have hns140_2 := NB121_178.out
          have hns140_3 := NB127_178.out
          have hns140_4 := NB133_178.out
          have hns140_5 := NB140_178.out
          have hms140_0 := NB178_101.out
          have hms140_1 := NB178_102.out
          have hms140_2 := NB178_121.out
          have hms140_3 := NB178_127.out
          have hms140_4 := NB178_133.out
          have hms140_5 := NB178_140.out
          have hs142 : w138.cell? ⟨gb178, 2, none⟩ = some (.slice none 0 0) := (bC_ BK178.out 2).trans rfl
          have hfs142 := bF_ BK178.out 2
          have hns142_0 := NB101_178.out
          have hns142_1 := NB102_178.out
          have hns142_2 := NB121_178.out
          have hns142_3 := NB127_178.out
          have hns142_4 := NB133_178.out
          have hns142_5 := NB140_178.out
          have hms142_0 := NB178_101.out
          have hms142_1 := NB178_102.out
          have hms142_2 := NB178_121.out
          have hms142_3 := NB178_127.out
          have hms142_4 := NB178_133.out
          have hms142_5 := NB178_140.out
          refine skip_ (w1 := ?_) (by rfl) rfl ?_ ?_
          rotate_left
          ·go_simp
           rfl
          refine hK.out _ _ ⟨((cell_far (p := ⟨gb178, _, none⟩) NB101_178.out _).trans (((cell_far (p := ⟨gb178, _, none⟩) NB101_178.out _).trans (((cell_far (p := ⟨gb178, _, none⟩) NB101_178.out _).trans (hHeld.1)))))), ((cell_far (p := ⟨gb178, _, none⟩) NB101_178.out _).trans (((cell_far (p := ⟨gb178, _, none⟩) NB101_178.out _).trans (((cell_far (p := ⟨gb178, _, none⟩) NB101_178.out _).trans (hHeld.2.1)))))), ((cell_far (p := ⟨gb178, _, none⟩) NB101_178.out _).trans (((cell_far (p := ⟨gb178, _, none⟩) NB101_178.out _).trans (((cell_far (p := ⟨gb178, _, none⟩) NB101_178.out _).trans (hHeld.2.2.1)))))), ((cell_far (p := ⟨gb178, _, none⟩) NB102_178.out _).trans (((cell_far (p := ⟨gb178, _, none⟩) NB102_178.out _).trans (((cell_far (p := ⟨gb178, _, none⟩) NB102_178.out _).trans (hHeld.2.2.2.1)))))), ((cell_far (p := ⟨gb178, _, none⟩) NB102_178.out _).trans (((cell_far (p := ⟨gb178, _, none⟩) NB102_178.out _).trans (((cell_far (p := ⟨gb178, _, none⟩) NB102_178.out _).trans (hHeld.2.2.2.2.1)))))), ((cell_far (p := ⟨gb178, _, none⟩) NB102_178.out _).trans (((cell_far (p := ⟨gb178, _, none⟩) NB102_178.out _).trans (((cell_far (p := ⟨gb178, _, none⟩) NB102_178.out _).trans (hHeld.2.2.2.2.2))))))⟩ (fun hHeld => ?_)
          clear hK K
          refine PX_ 10 16 (tb_ 11 2047) HT_ rfl rfl ?_
          refine done_ (done_of HT_.out (by kernel_rfl)) ?_
          have hnb143 := NB178_101.out
          have hnc143 := NB101_178.out
          have hnb144 := NB178_102.out
          have hnc144 := NB102_178.out
          have hnb145 := NB178_121.out
          have hnc145 := NB121_178.out
          have hnb146 := NB178_127.out
          have hnc146 := NB127_178.out
          have hnb147 := NB178_133.out
          have hnc147 := NB133_178.out
          have hnb148 := NB178_140.out
          have hnc148 := NB140_178.out
          obtain ⟨hcz149_0, hcz149_1, hcz149_2, hfz149_0, hfz149_1, hfz149_2⟩ := Z3f_ BK178.out
          obtain ⟨hcz150_0, hcz150_1, hcz150_2, hfz150_0, hfz150_1, hfz150_2⟩ := Z3f_ BK121.out
          try go_wp2_with (first | ((with_reducible refine gC_ (f := 17) rfl ?_); refine GL_ (some 104) rfl rfl Try.func17 #[.agg #[.int .i64 t172, .int .i64 t173, .slice Ao141 t174.length co141], .agg #[.int .i64 t115, .int .i64 t116, .slice Ao71 t117.length co71]] rfl (h := ?_); (with_reducible refine (z17.calls k t172 t173 _ _ t174 t115 t116 _ _ t117 true _ ?side1 ?side2 ?side3 ?side4 A46.out).mono ?_); (case side1 => refine (Kd.S_reads' (e := 25) (base := w.heap.size) (ok := fun k_ => (some k_ ≠ (v108 : Value).ownBlock ∧ (some k_ ≠ (v113 : Value).ownBlock ∧ (some k_ ≠ (.slice Ao71 t117.length co71 : Value).ownBlock ∧ (some k_ ≠ (.slice Ao82 t124.length co82 : Value).ownBlock ∧ (some k_ ≠ (.slice Ao93 t130.length co93 : Value).ownBlock ∧ (some k_ ≠ (.slice Ao104 t136.length co104 : Value).ownBlock ∧ (some k_ ≠ (.slice Ao110 t144.length co110 : Value).ownBlock ∧ (some k_ ≠ (.slice Ao115 t150.length co115 : Value).ownBlock ∧ (some k_ ≠ (v165 : Value).ownBlock ∧ some k_ ≠ (v170 : Value).ownBlock)))))))))) (n := t174.length) (c := co141) ?_).2.2; exact (by refine SW_ ?_; exact (Kd.S_mono (Kd.S_far (p := ⟨gb178, 2, none⟩) (Kd.S_far (p := ⟨gb178, 1, none⟩) (Kd.S_far (p := ⟨gb178, 0, none⟩) (Kd.S_types HO176.out BK178.out (by decide)) (fun _ hk => hk.2) (.int .i64 t172)) (fun _ hk => hk.2) (.int .i64 t173)) (fun _ hk => hk.2) (.slice Ao141 t174.length co141)) (fun _ h_ => h_.1)))); (case side2 => exact (Kd.S_reads' HO176.out).2.1); (case side3 => refine (Kd.S_reads' (e := 25) (base := w.heap.size) (ok := fun k_ => (some k_ ≠ (v108 : Value).ownBlock ∧ (some k_ ≠ (v113 : Value).ownBlock ∧ (some k_ ≠ (.slice Ao82 t124.length co82 : Value).ownBlock ∧ (some k_ ≠ (.slice Ao93 t130.length co93 : Value).ownBlock ∧ (some k_ ≠ (.slice Ao104 t136.length co104 : Value).ownBlock ∧ (some k_ ≠ (.slice Ao110 t144.length co110 : Value).ownBlock ∧ (some k_ ≠ (.slice Ao115 t150.length co115 : Value).ownBlock ∧ (some k_ ≠ (v165 : Value).ownBlock ∧ (some k_ ≠ (v170 : Value).ownBlock ∧ (some k_ ≠ (.slice Ao141 t174.length co141 : Value).ownBlock ∧ (k_ < nan76 ∧ (k_ < nan86 ∧ (k_ < nan96 ∧ (k_ < nan109 ∧ k_ < nan114))))))))))))))) (n := t117.length) (c := co71) ?_).2.2; exact (by refine SW_ ?_; exact (Kd.S_mono (Kd.S_far (p := ⟨gb178, 2, none⟩) (Kd.S_far (p := ⟨gb178, 1, none⟩) (Kd.S_far (p := ⟨gb178, 0, none⟩) (Kd.S_types HO119.out BK178.out (by decide)) (fun _ hk => hk.2) (.int .i64 t172)) (fun _ hk => hk.2) (.int .i64 t173)) (fun _ hk => hk.2) (.slice Ao141 t174.length co141)) (fun _ h_ => h_.1)))); (case side4 => exact (Kd.S_reads' HO119.out).2.1); rintro e w151 ⟨rfl, hb⟩; refine ⟨_, rfl, ?_⟩; replace HO109 := Zz.mk (Kd.S_below (by refine SW_ ?_; exact (Kd.S_mono (Kd.S_far (p := ⟨gb178, 2, none⟩) (Kd.S_far (p := ⟨gb178, 1, none⟩) (Kd.S_far (p := ⟨gb178, 0, none⟩) (Kd.S_types HO109.out BK178.out (by decide)) (fun _ hk => hk.2) (.int .i64 t172)) (fun _ hk => hk.2) (.int .i64 t173)) (fun _ hk => hk.2) (.slice Ao141 t174.length co141)) (fun _ h_ => h_.1))) hb); replace HO114 := Zz.mk (Kd.S_below (by refine SW_ ?_; exact (Kd.S_mono (Kd.S_far (p := ⟨gb178, 2, none⟩) (Kd.S_far (p := ⟨gb178, 1, none⟩) (Kd.S_far (p := ⟨gb178, 0, none⟩) (Kd.S_types HO114.out BK178.out (by decide)) (fun _ hk => hk.2) (.int .i64 t172)) (fun _ hk => hk.2) (.int .i64 t173)) (fun _ hk => hk.2) (.slice Ao141 t174.length co141)) (fun _ h_ => h_.1))) hb); replace HO119 := Zz.mk (Kd.S_below (by refine SW_ ?_; exact (Kd.S_mono (Kd.S_far (p := ⟨gb178, 2, none⟩) (Kd.S_far (p := ⟨gb178, 1, none⟩) (Kd.S_far (p := ⟨gb178, 0, none⟩) (Kd.S_types HO119.out BK178.out (by decide)) (fun _ hk => hk.2) (.int .i64 t172)) (fun _ hk => hk.2) (.int .i64 t173)) (fun _ hk => hk.2) (.slice Ao141 t174.length co141)) (fun _ h_ => h_.1))) hb); replace HO126 := Zz.mk (Kd.S_below (by refine SW_ ?_; exact (Kd.S_mono (Kd.S_far (p := ⟨gb178, 2, none⟩) (Kd.S_far (p := ⟨gb178, 1, none⟩) (Kd.S_far (p := ⟨gb178, 0, none⟩) (Kd.S_types HO126.out BK178.out (by decide)) (fun _ hk => hk.2) (.int .i64 t172)) (fun _ hk => hk.2) (.int .i64 t173)) (fun _ hk => hk.2) (.slice Ao141 t174.length co141)) (fun _ h_ => h_.1))) hb); replace HO132 := Zz.mk (Kd.S_below (by refine SW_ ?_; exact (Kd.S_mono (Kd.S_far (p := ⟨gb178, 2, none⟩) (Kd.S_far (p := ⟨gb178, 1, none⟩) (Kd.S_far (p := ⟨gb178, 0, none⟩) (Kd.S_types HO132.out BK178.out (by decide)) (fun _ hk => hk.2) (.int .i64 t172)) (fun _ hk => hk.2) (.int .i64 t173)) (fun _ hk => hk.2) (.slice Ao141 t174.length co141)) (fun _ h_ => h_.1))) hb); replace HO138 := Zz.mk (Kd.S_below (by refine SW_ ?_; exact (Kd.S_mono (Kd.S_far (p := ⟨gb178, 2, none⟩) (Kd.S_far (p := ⟨gb178, 1, none⟩) (Kd.S_far (p := ⟨gb178, 0, none⟩) (Kd.S_types HO138.out BK178.out (by decide)) (fun _ hk => hk.2) (.int .i64 t172)) (fun _ hk => hk.2) (.int .i64 t173)) (fun _ hk => hk.2) (.slice Ao141 t174.length co141)) (fun _ h_ => h_.1))) hb); replace HO146 := Zz.mk (Kd.S_below (by refine SW_ ?_; exact (Kd.S_mono (Kd.S_far (p := ⟨gb178, 2, none⟩) (Kd.S_far (p := ⟨gb178, 1, none⟩) (Kd.S_far (p := ⟨gb178, 0, none⟩) (Kd.S_types HO146.out BK178.out (by decide)) (fun _ hk => hk.2) (.int .i64 t172)) (fun _ hk => hk.2) (.int .i64 t173)) (fun _ hk => hk.2) (.slice Ao141 t174.length co141)) (fun _ h_ => h_.1))) hb); replace HO152 := Zz.mk (Kd.S_below (by refine SW_ ?_; exact (Kd.S_mono (Kd.S_far (p := ⟨gb178, 2, none⟩) (Kd.S_far (p := ⟨gb178, 1, none⟩) (Kd.S_far (p := ⟨gb178, 0, none⟩) (Kd.S_types HO152.out BK178.out (by decide)) (fun _ hk => hk.2) (.int .i64 t172)) (fun _ hk => hk.2) (.int .i64 t173)) (fun _ hk => hk.2) (.slice Ao141 t174.length co141)) (fun _ h_ => h_.1))) hb); replace HO166 := Zz.mk (Kd.S_below (by refine SW_ ?_; exact (Kd.S_mono (Kd.S_far (p := ⟨gb178, 2, none⟩) (Kd.S_far (p := ⟨gb178, 1, none⟩) (Kd.S_far (p := ⟨gb178, 0, none⟩) (Kd.S_types HO166.out BK178.out (by decide)) (fun _ hk => hk.2) (.int .i64 t172)) (fun _ hk => hk.2) (.int .i64 t173)) (fun _ hk => hk.2) (.slice Ao141 t174.length co141)) (fun _ h_ => h_.1))) hb); replace HO171 := Zz.mk (Kd.S_below (by refine SW_ ?_; exact (Kd.S_mono (Kd.S_far (p := ⟨gb178, 2, none⟩) (Kd.S_far (p := ⟨gb178, 1, none⟩) (Kd.S_far (p := ⟨gb178, 0, none⟩) (Kd.S_types HO171.out BK178.out (by decide)) (fun _ hk => hk.2) (.int .i64 t172)) (fun _ hk => hk.2) (.int .i64 t173)) (fun _ hk => hk.2) (.slice Ao141 t174.length co141)) (fun _ h_ => h_.1))) hb); replace HO176 := Zz.mk (Kd.S_below (by refine SW_ ?_; exact (Kd.S_mono (Kd.S_far (p := ⟨gb178, 2, none⟩) (Kd.S_far (p := ⟨gb178, 1, none⟩) (Kd.S_far (p := ⟨gb178, 0, none⟩) (Kd.S_types HO176.out BK178.out (by decide)) (fun _ hk => hk.2) (.int .i64 t172)) (fun _ hk => hk.2) (.int .i64 t173)) (fun _ hk => hk.2) (.slice Ao141 t174.length co141)) (fun _ h_ => h_.1))) hb); replace BK101 := Zz.mk (bB_ (g := gb101) (o := .cells #[.int .i64 a0_0, .int .i64 a0_1, .slice A0_2 l0_2.length c0_2] 24 (0, 0)) (by refine BW_ ?_; refine bR_ ?_ NB101_178.out _; refine BW_ ?_; refine bR_ ?_ NB101_178.out _; refine BW_ ?_; refine bR_ ?_ NB101_178.out _; refine BW_ ?_; exact BK101.out) hb); replace BK102 := Zz.mk (bB_ (g := gb102) (o := .cells #[.int .i64 a1_0, .int .i64 a1_1, .slice A1_2 l1_2.length c1_2] 24 (0, 0)) (by refine BW_ ?_; refine bR_ ?_ NB102_178.out _; refine BW_ ?_; refine bR_ ?_ NB102_178.out _; refine BW_ ?_; refine bR_ ?_ NB102_178.out _; refine BW_ ?_; exact BK102.out) hb); replace BK121 := Zz.mk (bB_ (g := gb121) (o := .cells #[.int .i64 t115, .int .i64 t116, .slice Ao71 t117.length co71] 29 (0, 0)) (by refine BW_ ?_; refine bR_ ?_ NB121_178.out _; refine BW_ ?_; refine bR_ ?_ NB121_178.out _; refine BW_ ?_; refine bR_ ?_ NB121_178.out _; refine BW_ ?_; exact BK121.out) hb); replace BK127 := Zz.mk (bB_ (g := gb127) (o := .cells #[.int .i64 t122, .int .i64 t123, .slice Ao82 t124.length co82] 29 (0, 0)) (by refine BW_ ?_; refine bR_ ?_ NB127_178.out _; refine BW_ ?_; refine bR_ ?_ NB127_178.out _; refine BW_ ?_; refine bR_ ?_ NB127_178.out _; refine BW_ ?_; exact BK127.out) hb); replace BK133 := Zz.mk (bB_ (g := gb133) (o := .cells #[.int .i64 t128, .int .i64 t129, .slice Ao93 t130.length co93] 29 (0, 0)) (by refine BW_ ?_; refine bR_ ?_ NB133_178.out _; refine BW_ ?_; refine bR_ ?_ NB133_178.out _; refine BW_ ?_; refine bR_ ?_ NB133_178.out _; refine BW_ ?_; exact BK133.out) hb); replace BK140 := Zz.mk (bB_ (g := gb140) (o := .cells #[.int .i64 t134, .int .i64 t135, .slice Ao104 t136.length co104] 29 (0, 0)) (by refine BW_ ?_; refine bR_ ?_ NB140_178.out _; refine BW_ ?_; refine bR_ ?_ NB140_178.out _; refine BW_ ?_; refine bR_ ?_ NB140_178.out _; refine BW_ ?_; exact BK140.out) hb); replace BK178 := Zz.mk (bB_ (g := gb178) (o := .cells #[.int .i64 t172, .int .i64 t173, .slice Ao141 t174.length co141] 29 (0, 0)) (by refine BW_ ?_; refine bP_ (cs := #[.int .i64 t172, .int .i64 t173, .slice none 0 0]) ?_ 2 _ rfl; refine BW_ ?_; refine bP_ (cs := #[.int .i64 t172, .int .i64 0, .slice none 0 0]) ?_ 1 _ rfl; refine BW_ ?_; refine bP_ (cs := #[.int .i64 0, .int .i64 0, .slice none 0 0]) ?_ 0 _ rfl; refine BW_ ?_; exact BK178.out) hb); replace HB := Zz.mk (bT_ (Bw7_ HB.out GE101.out GE102.out GE121.out GE127.out GE133.out GE140.out GE178.out) hb); (try clear hb); (try clear hb2); (try clear hk); (try clear hi); obtain ⟨hcz152_0, hcz152_1, hcz152_2, hfz152_0, hfz152_1, hfz152_2⟩ := Z3f_ BK140.out) | ((with_reducible refine gC_ (f := 23) rfl ?_); refine goesL_ (some 113) rfl rfl Try.func23 (by kernel_rfl) rfl #[.agg #[.int .i64 t134, .int .i64 t135, .slice Ao104 t160.length co104], .int .i64 1] rfl (by (try simp only [List.map_toArray, List.map_cons, List.map_nil]); first | done | (rw [show t160.length = t136.length from (Kd.S_reads' HO138.out).1.symm] <;> rfl) | rfl | (simp only [List.length_drop, List.length_take]; rfl)) ?_; (with_reducible refine (z23.calls k t134 t135 _ _ t160 1 t180 _ ?side1 ?side2 A49.out).mono ?_); (case side1 => exact KC_ (Kd.S_reads' HO138.out).2.2); (case side2 => rw [show t160.length = t136.length from (Kd.S_reads' HO138.out).1.symm]; exact (Kd.S_reads' HO138.out).2.1); rintro e w153 ⟨rfl, hb⟩; refine ⟨_, rfl, ?_⟩; replace HO109 := Zz.mk (Kd.S_below (KS_ HO109.out) hb); replace HO114 := Zz.mk (Kd.S_below (KS_ HO114.out) hb); replace HO119 := Zz.mk (Kd.S_below (KS_ HO119.out) hb); replace HO126 := Zz.mk (Kd.S_below (KS_ HO126.out) hb); replace HO132 := Zz.mk (Kd.S_below (KS_ HO132.out) hb); replace HO138 := Zz.mk (Kd.S_below (KS_ HO138.out) hb); replace HO146 := Zz.mk (Kd.S_below (KS_ HO146.out) hb); replace HO152 := Zz.mk (Kd.S_below (KS_ HO152.out) hb); replace HO166 := Zz.mk (Kd.S_below (KS_ HO166.out) hb); replace HO171 := Zz.mk (Kd.S_below (KS_ HO171.out) hb); replace HO176 := Zz.mk (Kd.S_below (KS_ HO176.out) hb); replace BK101 := Zz.mk (bB_ (g := gb101) (o := .cells #[.int .i64 a0_0, .int .i64 a0_1, .slice A0_2 l0_2.length c0_2] 24 (0, 0)) (KB_ BK101.out) hb); replace BK102 := Zz.mk (bB_ (g := gb102) (o := .cells #[.int .i64 a1_0, .int .i64 a1_1, .slice A1_2 l1_2.length c1_2] 24 (0, 0)) (KB_ BK102.out) hb); replace BK121 := Zz.mk (bB_ (g := gb121) (o := .cells #[.int .i64 t115, .int .i64 t116, .slice Ao71 t117.length co71] 29 (0, 0)) (KB_ BK121.out) hb); replace BK127 := Zz.mk (bB_ (g := gb127) (o := .cells #[.int .i64 t122, .int .i64 t123, .slice Ao82 t124.length co82] 29 (0, 0)) (KB_ BK127.out) hb); replace BK133 := Zz.mk (bB_ (g := gb133) (o := .cells #[.int .i64 t128, .int .i64 t129, .slice Ao93 t130.length co93] 29 (0, 0)) (KB_ BK133.out) hb); replace BK140 := Zz.mk (bB_ (g := gb140) (o := .cells #[.int .i64 t134, .int .i64 t135, .slice Ao104 t136.length co104] 29 (0, 0)) (KB_ BK140.out) hb); replace BK178 := Zz.mk (bB_ (g := gb178) (o := .cells #[.int .i64 t172, .int .i64 t173, .slice Ao141 t174.length co141] 29 (0, 0)) (KB_ BK178.out) hb); replace HB := Zz.mk (bT_ (Bw7_ HB.out GE101.out GE102.out GE121.out GE127.out GE133.out GE140.out GE178.out) hb); (try clear hb); (try clear hb2); (try clear hk); (try clear hi)))
          go_ret
          exact ⟨F_, by repeat (first | (with_reducible first | exact HB.out | apply below_alloc | apply pw_below_drewN | apply below_drew1 | refine below_set ?_ GE101.out | refine below_set ?_ GE102.out | refine below_set ?_ GE121.out | refine below_set ?_ GE127.out | refine below_set ?_ GE133.out | refine below_set ?_ GE140.out | refine below_set ?_ GE178.out) | exact HB.out)⟩
         rw [if_neg c51] at H
         have c51b0 : (t180 == t159) = false := beq_eq_false_iff_ne.mpr c51
         have c51b1 : (t180 != t159) = true := bne_iff_ne.mpr c51
         exact absurd (H.trans (congrArg some ht_)) (by simp)
        rw [if_neg c48] at H
        have c48b0 : (t177 == t120) = false := beq_eq_false_iff_ne.mpr c48
        have c48b1 : (t177 != t120) = true := bne_iff_ne.mpr c48
        exact absurd (H.trans (congrArg some ht_)) (by simp)
       replace c47 := Bool.eq_false_iff.mpr c47
       subst c47
       replace H := N_ H
       exact absurd (H.trans (congrArg some ht_)) (by simp)
      rw [if_neg c42] at H
      have c42b0 : (t161 == t159) = false := beq_eq_false_iff_ne.mpr c42
      have c42b1 : (t161 != t159) = true := bne_iff_ne.mpr c42
      exact absurd (H.trans (congrArg some ht_)) (by simp)
     replace c38 := Bool.eq_false_iff.mpr c38
     subst c38
     replace H := N_ H
     exact absurd (H.trans (congrArg some ht_)) (by simp)
    replace c33 := Bool.eq_false_iff.mpr c33
    subst c33
    replace H := N_ H
    exact absurd (H.trans (congrArg some ht_)) (by simp)
   replace c30 := Bool.eq_false_iff.mpr c30
   subst c30
   replace H := N_ H
   exact absurd (H.trans (congrArg some ht_)) (by simp)
  rw [if_neg c27] at H
  have c27b0 : (t139 == t120) = false := beq_eq_false_iff_ne.mpr c27
  have c27b1 : (t139 != t120) = true := bne_iff_ne.mpr c27
  exact absurd (H.trans (congrArg some ht_)) (by simp)
 replace c26 := Bool.eq_false_iff.mpr c26
 subst c26
 replace H := N_ H
 exact absurd (H.trans (congrArg some ht_)) (by simp)
end Go.Proofs.Ytabfflgoaalapaa.B
