/- Printed proofs of functions of the program and of the reference, by a program of this work over the kit's printer. -/
import Derived.Test.YtipkciildhghiaaKFPNPPP0
import Derived.Test.YtipkciildhghiaaKHGNPLP0
import Derived.Test.YtipkciildhghiaaKMHEBLC0
import Derived.Test.YtipkciildhghiaaKMICICC0
import Derived.Test.YtipkciildhghiaaKW0
set_option maxHeartbeats 8000000
set_option maxRecDepth 100000
namespace Go.Proofs.Ytipkciildhghiaa.B
open Go.RowKit Go.Proofs.YtipkciildhghiaaW.PrintWords Go.Proofs.YtipkciildhghiaaW.PrintLast Go.Proofs.YtipkciildhghiaaW.PrintMore
attribute [local go_sem] max2_int min2_int max_two min_two max_three min_three max_four min_four
set_option linter.unusedVariables false
set_option linter.unusedSimpArgs false
def z53.f (k : Nat) (l0_0 : List (List Int)) (a1 : Int) (a2 : Int) (l3 : List Int) : Option (Bool) := (z55.f k l0_0 a1 a2 l3).bind fun bt102 => (some (bt102.2 == 0))
theorem z53.calls (k : Nat) (A0_0 : Option Addr) (c0_0 : Nat) (l0_0 : List (List Int)) (a1 : Int) (a2 : Int) (A3 : Option Addr) (c3 : Nat) (l3 : List Int) (r : Bool) (w : World) (hr0_0 : Kd.C (Kd.slice 2 (Kd.int .i64)) w A0_0 l0_0.length l0_0) (hc0_0 : l0_0.length ≤ c0_0) (hr3 : Kd.C (Kd.int .i64) w A3 l3.length l3) (hc3 : l3.length ≤ c3) (h : z53.f k l0_0 a1 a2 l3 = some r) :
  Calls Try.prog 53 #[.agg #[.slice A0_0 l0_0.length c0_0], .int .i64 a1, .int .i64 a2, .slice A3 l3.length c3] w fun e w' => e = .returned (.bool r) ∧ Below w.heap.size w w' := by
 have hu29 := Try.underlying29
 have HR0_0 := Zz.mk hr0_0
 have HC0_0 := Zz.mk hc0_0
 clear hr0_0 hc0_0
 have HR3 := Zz.mk hr3
 have HC3 := Zz.mk hc3
 clear hr3 hc3
 have HB := Zz.mk (Below.refl w.heap.size w)
 have H : ((z55.f k l0_0 a1 a2 l3).bind fun bt102 => (some (bt102.2 == 0))) = some r := h
 clear h
 replace H := OB_ H
 obtain ⟨⟨t102, t105⟩, A50, H⟩ := H
 try dsimp only at H
 have A5 := Zz.mk A50
 clear A50
 obtain rfl := OI_ H
 go_enter Try.func53, Try.ntmps53
 go_wp2_with (first | ((with_reducible refine gate_dst (N := 4) rfl ?_); refine box_event ?hg (N := 4) ?hd (cs := #[.slice A0_0 l0_0.length c0_0]) (t := 29) ?hr ?_; (case hd => rfl); (case hg => rfl); (case hr => first | (go_simp; done) | (go_simp; rfl)); intro gb101 hg w6 hbox hb; have BK101 := Zz.mk (hbox); have GW101 := Zz.mk ((by rw [hg]; exact (bS_ (B_ HB.out)) : w.heap.size ≤ gb101)); have GE101 := GW101; replace HB := Zz.mk (bT_ (B_ HB.out) hb); clear hb hbox hg; obtain ⟨hcz7_0, hfz7_0⟩ := Z1f_ BK101.out) | ((with_reducible refine gC_ (f := 55) rfl ?_); refine GL_ (some 16) rfl rfl Try.func55 #[.agg #[.slice A0_0 l0_0.length c0_0], .int .i64 a1, .int .i64 a2, .slice A3 l3.length c3] rfl (h := ?_); (with_reducible refine (z55.calls k _ _ l0_0 a1 a2 _ _ l3 t102 t105 _ ?side1 ?side2 ?side3 ?side4 A5.out).mono ?_); (case side1 => exact KC_ (Kd.C_below HR0_0.out HB.out)); (case side2 => exact HC0_0.out); (case side3 => exact KC_ (Kd.C_below HR3.out HB.out)); (case side4 => exact HC3.out); rintro e w8 ⟨v103, rfl, ho0, hb⟩; refine ⟨_, rfl, ?_⟩; have HO104 := Zz.mk (Kd.R_lower ho0 (bS_ (B1_ HB.out GE101.out))); replace BK101 := Zz.mk (bB_ (g := gb101) (o := .cells #[.slice A0_0 l0_0.length c0_0] 29 (0, 0)) (KB_ BK101.out) hb); replace HB := Zz.mk (bT_ (B1_ HB.out GE101.out) hb); (try clear hb); (try clear hb2); (try clear hk); (try clear hi); (try clear ho0)))
 go_ret
 exact ⟨F_, B1_ HB.out GE101.out⟩
def z52.f (k : Nat) (l0_0 : List (List Int)) (a1 : Int) (a2 : Int) (l3 : List Int) : Option (Bool) := (z97.f k l0_0 a1 a2 l3).bind fun t102 => (if t102 = 0 then ((z105.f k l0_0 a1 a2 l3).bind fun bt103 => (some bt103.2)) else (some false))
theorem z52.calls (k : Nat) (A0_0 : Option Addr) (c0_0 : Nat) (l0_0 : List (List Int)) (a1 : Int) (a2 : Int) (A3 : Option Addr) (c3 : Nat) (l3 : List Int) (r : Bool) (w : World) (hr0_0 : Kd.C (Kd.slice 2 (Kd.int .i64)) w A0_0 l0_0.length l0_0) (hc0_0 : l0_0.length ≤ c0_0) (hr3 : Kd.C (Kd.int .i64) w A3 l3.length l3) (hc3 : l3.length ≤ c3) (h : z52.f k l0_0 a1 a2 l3 = some r) :
  Calls Try.prog 52 #[.agg #[.slice A0_0 l0_0.length c0_0], .int .i64 a1, .int .i64 a2, .slice A3 l3.length c3] w fun e w' => e = .returned (.bool r) ∧ Below w.heap.size w w' := by
 have hu29 := Try.underlying29
 have HR0_0 := Zz.mk hr0_0
 have HC0_0 := Zz.mk hc0_0
 clear hr0_0 hc0_0
 have HR3 := Zz.mk hr3
 have HC3 := Zz.mk hc3
 clear hr3 hc3
 have HB := Zz.mk (Below.refl w.heap.size w)
 have H : ((z97.f k l0_0 a1 a2 l3).bind fun t102 => (if t102 = 0 then ((z105.f k l0_0 a1 a2 l3).bind fun bt103 => (some bt103.2)) else (some false))) = some r := h
 clear h
 replace H := OZ_ H
 obtain ⟨t102, A5, H⟩ := H
 by_cases c6 : t102 = 0
 ·rw [if_pos c6] at H
  have c6b0 : (t102 == 0) = true := beq_iff_eq.mpr c6
  have c6b1 : (t102 != 0) = false := bne_eq_false_iff_eq.mpr c6
  clear c6
  replace H := OB_ H
  obtain ⟨⟨t103, t106⟩, A70, H⟩ := H
  try dsimp only at H
  have A7 := Zz.mk A70
  clear A70
  obtain rfl := OI_ H
  go_enter Try.func52, Try.ntmps52
  go_wp2_with (first | ((with_reducible refine gate_dst (N := 4) rfl ?_); refine box_event ?hg (N := 4) ?hd (cs := #[.slice A0_0 l0_0.length c0_0]) (t := 29) ?hr ?_; (case hd => rfl); (case hg => rfl); (case hr => first | (go_simp; done) | (go_simp; rfl)); intro gb101 hg w8 hbox hb; have BK101 := Zz.mk (hbox); have GW101 := Zz.mk ((by rw [hg]; exact (bS_ (B_ HB.out)) : w.heap.size ≤ gb101)); have GE101 := GW101; replace HB := Zz.mk (bT_ (B_ HB.out) hb); clear hb hbox hg) | ((with_reducible refine gC_ (f := 97) rfl ?_); refine GL_ (some 14) rfl rfl Try.func97 #[.pointer (some ⟨gb101, 0, none⟩), .int .i64 a1, .int .i64 a2, .slice A3 l3.length c3] rfl (h := ?_); (with_reducible refine (z97.calls k gb101 A0_0 c0_0 l0_0 a1 a2 _ _ l3 t102 _ ?side1 ?side2 ?side3 ?side4 ?side5 A5.out).mono ?_); (case side1 => refine BW_ ?_; exact BK101.out); (case side2 => exact KC_ (Kd.C_below HR0_0.out HB.out)); (case side3 => exact HC0_0.out); (case side4 => exact KC_ (Kd.C_below HR3.out HB.out)); (case side5 => exact HC3.out); rintro e w9 ⟨rfl, hb⟩; refine ⟨_, rfl, ?_⟩; replace BK101 := Zz.mk (bB_ (g := gb101) (o := .cells #[.slice A0_0 l0_0.length c0_0] 29 (0, 0)) (KB_ BK101.out) hb); replace HB := Zz.mk (bT_ (B1_ HB.out GE101.out) hb); (try clear hb); (try clear hb2); (try clear hk); (try clear hi)) | ((with_reducible refine gC_ (f := 105) rfl ?_); refine GL_ (some 20) rfl rfl Try.func105 #[.pointer (some ⟨gb101, 0, none⟩), .int .i64 a1, .int .i64 a2, .slice A3 l3.length c3] rfl (h := ?_); (with_reducible refine (z105.calls k gb101 A0_0 c0_0 l0_0 a1 a2 _ _ l3 t103 t106 _ ?side1 ?side2 ?side3 ?side4 ?side5 A7.out).mono ?_); (case side1 => refine BW_ ?_; exact BK101.out); (case side2 => exact KC_ (Kd.C_below HR0_0.out HB.out)); (case side3 => exact HC0_0.out); (case side4 => exact KC_ (Kd.C_below HR3.out HB.out)); (case side5 => exact HC3.out); rintro e w10 ⟨v104, rfl, ho0, hb⟩; refine ⟨_, rfl, ?_⟩; have HO105 := Zz.mk (Kd.R_lower ho0 (bS_ (B1_ HB.out GE101.out))); replace BK101 := Zz.mk (bB_ (g := gb101) (o := .cells #[.slice A0_0 l0_0.length c0_0] 29 (0, 0)) (KB_ BK101.out) hb); replace HB := Zz.mk (bT_ (B1_ HB.out GE101.out) hb); (try clear hb); (try clear hb2); (try clear hk); (try clear hi); (try clear ho0)))
  go_ret
  exact ⟨F_, B1_ HB.out GE101.out⟩
 rw [if_neg c6] at H
 have c6b0 : (t102 == 0) = false := beq_eq_false_iff_ne.mpr c6
 have c6b1 : (t102 != 0) = true := bne_iff_ne.mpr c6
 obtain rfl := OI_ H
 go_enter Try.func52, Try.ntmps52
 go_wp2_with (first | ((with_reducible refine gate_dst (N := 4) rfl ?_); refine box_event ?hg (N := 4) ?hd (cs := #[.slice A0_0 l0_0.length c0_0]) (t := 29) ?hr ?_; (case hd => rfl); (case hg => rfl); (case hr => first | (go_simp; done) | (go_simp; rfl)); intro gb101 hg w11 hbox hb; have BK101 := Zz.mk (hbox); have GW101 := Zz.mk ((by rw [hg]; exact (bS_ (B_ HB.out)) : w.heap.size ≤ gb101)); have GE101 := GW101; replace HB := Zz.mk (bT_ (B_ HB.out) hb); clear hb hbox hg) | ((with_reducible refine gC_ (f := 97) rfl ?_); refine GL_ (some 14) rfl rfl Try.func97 #[.pointer (some ⟨gb101, 0, none⟩), .int .i64 a1, .int .i64 a2, .slice A3 l3.length c3] rfl (h := ?_); (with_reducible refine (z97.calls k gb101 A0_0 c0_0 l0_0 a1 a2 _ _ l3 t102 _ ?side1 ?side2 ?side3 ?side4 ?side5 A5.out).mono ?_); (case side1 => refine BW_ ?_; exact BK101.out); (case side2 => exact KC_ (Kd.C_below HR0_0.out HB.out)); (case side3 => exact HC0_0.out); (case side4 => exact KC_ (Kd.C_below HR3.out HB.out)); (case side5 => exact HC3.out); rintro e w12 ⟨rfl, hb⟩; refine ⟨_, rfl, ?_⟩; replace BK101 := Zz.mk (bB_ (g := gb101) (o := .cells #[.slice A0_0 l0_0.length c0_0] 29 (0, 0)) (KB_ BK101.out) hb); replace HB := Zz.mk (bT_ (B1_ HB.out GE101.out) hb); (try clear hb); (try clear hb2); (try clear hk); (try clear hi)))
 go_ret
 exact ⟨F_, B1_ HB.out GE101.out⟩
end Go.Proofs.Ytipkciildhghiaa.B
