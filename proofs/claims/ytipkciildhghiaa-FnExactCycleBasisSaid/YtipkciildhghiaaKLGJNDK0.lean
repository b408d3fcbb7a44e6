/- Printed proofs of functions of the program and of the reference, by a program of this work over the kit's printer. -/
import Derived.Test.YtipkciildhghiaaKAHAJFP0
import Derived.Test.YtipkciildhghiaaKHGNPLP0
import Derived.Test.YtipkciildhghiaaKJAGPEI0
import Derived.Test.YtipkciildhghiaaKKEBAJI0
import Derived.Test.YtipkciildhghiaaKLKNNEM0
import Derived.Test.YtipkciildhghiaaKOKKPPG0
import Derived.Test.YtipkciildhghiaaKONOPDE0
import Derived.Test.YtipkciildhghiaaKW0
set_option maxHeartbeats 8000000
set_option maxRecDepth 100000
namespace Go.Proofs.Ytipkciildhghiaa.B
open Go.RowKit Go.Proofs.YtipkciildhghiaaW.PrintWords Go.Proofs.YtipkciildhghiaaW.PrintLast Go.Proofs.YtipkciildhghiaaW.PrintMore
attribute [local go_sem] max2_int min2_int max_two min_two max_three min_three max_four min_four
set_option linter.unusedVariables false
set_option linter.unusedSimpArgs false
def z50.f (k : Nat) (l0_0 : List (List Int)) (a1 : Int) (a2 : Int) : Option ((List (List Int)) × Int) := (z92.f k l0_0 a1 a2).bind fun t102 => (if t102 = 0 then ((z96.f k l0_0 a1 a2).bind fun bt103 => ((z104.f k bt103.1 bt103.2.1 bt103.2.2.1 bt103.2.2.2).bind fun t109 => (some (t109, 0)))) else (some (([] : List (List Int)), t102)))
theorem z50.calls (k : Nat) (A0_0 : Option Addr) (c0_0 : Nat) (l0_0 : List (List Int)) (a1 : Int) (a2 : Int) (r1 : List (List Int)) (r2 : Int) (w : World) (hr0_0 : Kd.C (Kd.slice 2 (Kd.int .i64)) w A0_0 l0_0.length l0_0) (hc0_0 : l0_0.length ≤ c0_0) (h : z50.f k l0_0 a1 a2 = some (r1, r2)) :
  Calls Try.prog 50 #[.agg #[.slice A0_0 l0_0.length c0_0], .int .i64 a1, .int .i64 a2] w fun e w' => ∃ v0_ : Value, e = .returned (.tuple #[v0_, .int .i64 r2]) ∧ Kd.S (Kd.slice 2 (Kd.int .i64)) 26 w' w.heap.size (fun _ => True) v0_ r1 ∧ Below w.heap.size w w' := by
 have hu29 := Try.underlying29
 have HR0_0 := Zz.mk hr0_0
 have HC0_0 := Zz.mk hc0_0
 clear hr0_0 hc0_0
 have HB := Zz.mk (Below.refl w.heap.size w)
 have H : ((z92.f k l0_0 a1 a2).bind fun t102 => (if t102 = 0 then ((z96.f k l0_0 a1 a2).bind fun bt103 => ((z104.f k bt103.1 bt103.2.1 bt103.2.2.1 bt103.2.2.2).bind fun t109 => (some (t109, 0)))) else (some (([] : List (List Int)), t102)))) = some (r1, r2) := h
 clear h
 replace H := OB_ H
 obtain ⟨t102, A40, H⟩ := H
 replace H : (if t102 = 0 then ((z96.f k l0_0 a1 a2).bind fun bt103 => ((z104.f k bt103.1 bt103.2.1 bt103.2.2.1 bt103.2.2.2).bind fun t109 => (some (t109, 0)))) else (some (([] : List (List Int)), t102))) = some (r1, r2) := H
 have A4 := Zz.mk A40
 clear A40
 by_cases c5 : t102 = 0
 ·rw [if_pos c5] at H
  have c5b0 : (t102 == 0) = true := beq_iff_eq.mpr c5
  have c5b1 : (t102 != 0) = false := bne_eq_false_iff_eq.mpr c5
  clear c5
  replace H := OB_ H
  obtain ⟨⟨t103, t104, t105, t106⟩, A60, H⟩ := H
  replace H : ((z104.f k t103 t104 t105 t106).bind fun t109 => (some (t109, 0))) = some (r1, r2) := H
  have A6 := Zz.mk A60
  clear A60
  replace H := OB_ H
  obtain ⟨t109, A70, H⟩ := H
  replace H : (some (t109, 0)) = some (r1, r2) := H
  have A7 := Zz.mk A70
  clear A70
  simp only [Option.some.injEq, Prod.mk.injEq] at H
  obtain ⟨rfl, rfl⟩ := H
  go_enter Try.func50, Try.ntmps50
  go_wp2_with (first | ((with_reducible refine gate_dst (N := 3) rfl ?_); refine box_event ?hg (N := 3) ?hd (cs := #[.slice A0_0 l0_0.length c0_0]) (t := 29) ?hr ?_; (case hd => rfl); (case hg => rfl); (case hr => first | (go_simp; done) | (go_simp; rfl)); intro gb101 hg w8 hbox hb; have BK101 := Zz.mk (hbox); have GW101 := Zz.mk ((by rw [hg]; exact (bS_ (B_ HB.out)) : w.heap.size ≤ gb101)); have GE101 := GW101; replace HB := Zz.mk (bT_ (B_ HB.out) hb); clear hb hbox hg; obtain ⟨hcz9_0, hfz9_0⟩ := Z1f_ BK101.out) | ((with_reducible refine gC_ (f := 92) rfl ?_); refine GL_ (some 12) rfl rfl Try.func92 #[.agg #[.slice A0_0 l0_0.length c0_0], .int .i64 a1, .int .i64 a2] rfl (h := ?_); (with_reducible refine (z92.calls k _ _ l0_0 a1 a2 t102 _ ?side1 ?side2 A4.out).mono ?_); (case side1 => exact KC_ (Kd.C_below HR0_0.out HB.out)); (case side2 => exact HC0_0.out); rintro e w10 ⟨rfl, hb⟩; refine ⟨_, rfl, ?_⟩; replace BK101 := Zz.mk (bB_ (g := gb101) (o := .cells #[.slice A0_0 l0_0.length c0_0] 29 (0, 0)) (KB_ BK101.out) hb); replace HB := Zz.mk (bT_ (B1_ HB.out GE101.out) hb); (try clear hb); (try clear hb2); (try clear hk); (try clear hi); obtain ⟨hcz11_0, hfz11_0⟩ := Z1f_ BK101.out) | ((with_reducible refine gC_ (f := 96) rfl ?_); refine GL_ (some 19) rfl rfl Try.func96 #[.agg #[.slice A0_0 l0_0.length c0_0], .int .i64 a1, .int .i64 a2] rfl (h := ?_); (with_reducible refine (z96.calls k _ _ l0_0 a1 a2 t103 t104 t105 t106 _ ?side1 ?side2 A6.out).mono ?_); (case side1 => exact KC_ (Kd.C_below HR0_0.out HB.out)); (case side2 => exact HC0_0.out); rintro e w12 ⟨v107, rfl, ho0, hb⟩; refine ⟨_, rfl, ?_⟩; have HO108 := Zz.mk (Kd.R_lower ho0 (bS_ (B1_ HB.out GE101.out))); replace BK101 := Zz.mk (bB_ (g := gb101) (o := .cells #[.slice A0_0 l0_0.length c0_0] 29 (0, 0)) (KB_ BK101.out) hb); replace HB := Zz.mk (bT_ (B1_ HB.out GE101.out) hb); (try clear hb); (try clear hb2); (try clear hk); (try clear hi); (try clear ho0); obtain ⟨Ao13, co13, eo13⟩ := Kd.R_slice HO108.out; subst eo13) | ((with_reducible refine gC_ (f := 104) rfl ?_); refine GL_ (some 20) rfl rfl Try.func104 #[.agg #[.int .i64 t103, .int .i64 t104, .int .i64 t105, .slice Ao13 t106.length co13]] rfl (h := ?_); (with_reducible refine (z104.calls k t103 t104 t105 _ _ t106 t109 _ ?side1 ?side2 A7.out).mono ?_); (case side1 => exact KC_ (Kd.R_reads' HO108.out).2.2); (case side2 => exact (Kd.R_reads' HO108.out).2.1); rintro e w14 ⟨v110, rfl, ho0, hb⟩; refine ⟨_, rfl, ?_⟩; have HO111 := Zz.mk (Kd.S_lower (Kd.S_new' ho0 (Kd.R_lt (KR_ HO108.out))) (bS_ (B1_ HB.out GE101.out))); replace HO108 := Zz.mk (Kd.R_below (KR_ HO108.out) hb); replace BK101 := Zz.mk (bB_ (g := gb101) (o := .cells #[.slice A0_0 l0_0.length c0_0] 29 (0, 0)) (KB_ BK101.out) hb); replace HB := Zz.mk (bT_ (B1_ HB.out GE101.out) hb); (try clear hb); (try clear hb2); (try clear hk); (try clear hi); (try clear ho0)))
  go_ret2
  exact ⟨_, F_, by refine SW_ ?_; exact Kd.S_mono HO111.out (fun _ hk => trivial), B1_ HB.out GE101.out⟩
 rw [if_neg c5] at H
 have c5b0 : (t102 == 0) = false := beq_eq_false_iff_ne.mpr c5
 have c5b1 : (t102 != 0) = true := bne_iff_ne.mpr c5
 simp only [Option.some.injEq, Prod.mk.injEq] at H
 obtain ⟨rfl, rfl⟩ := H
 go_enter Try.func50, Try.ntmps50
 go_wp2_with (first | ((with_reducible refine gate_dst (N := 3) rfl ?_); refine box_event ?hg (N := 3) ?hd (cs := #[.slice A0_0 l0_0.length c0_0]) (t := 29) ?hr ?_; (case hd => rfl); (case hg => rfl); (case hr => first | (go_simp; done) | (go_simp; rfl)); intro gb101 hg w15 hbox hb; have BK101 := Zz.mk (hbox); have GW101 := Zz.mk ((by rw [hg]; exact (bS_ (B_ HB.out)) : w.heap.size ≤ gb101)); have GE101 := GW101; replace HB := Zz.mk (bT_ (B_ HB.out) hb); clear hb hbox hg; obtain ⟨hcz16_0, hfz16_0⟩ := Z1f_ BK101.out) | ((with_reducible refine gC_ (f := 92) rfl ?_); refine GL_ (some 12) rfl rfl Try.func92 #[.agg #[.slice A0_0 l0_0.length c0_0], .int .i64 a1, .int .i64 a2] rfl (h := ?_); (with_reducible refine (z92.calls k _ _ l0_0 a1 a2 t102 _ ?side1 ?side2 A4.out).mono ?_); (case side1 => exact KC_ (Kd.C_below HR0_0.out HB.out)); (case side2 => exact HC0_0.out); rintro e w17 ⟨rfl, hb⟩; refine ⟨_, rfl, ?_⟩; replace BK101 := Zz.mk (bB_ (g := gb101) (o := .cells #[.slice A0_0 l0_0.length c0_0] 29 (0, 0)) (KB_ BK101.out) hb); replace HB := Zz.mk (bT_ (B1_ HB.out GE101.out) hb); (try clear hb); (try clear hb2); (try clear hk); (try clear hi)))
 go_ret2
 exact ⟨_, F_, by first | exact Kd.S_nil _ _ _ _ _ | exact Kd.N_nil _ _ _ _ _ | exact Kd.V_nil _ _ _ _ _ | exact Kd.Q_nil _ _ _ _ _ | exact Kd.R_nil _ _ _ _ _, B1_ HB.out GE101.out⟩
def z49.f (k : Nat) (l0_0 : List (List Int)) (a1 : Int) (a2 : Int) : Option ((List (List Int)) × Int) := (z88.f k l0_0 a1 a2).bind fun t102 => (if t102 = 0 then ((z95.f k l0_0 a1 a2).bind fun bt103 => ((z103.f k bt103.1 bt103.2.1 bt103.2.2.1 bt103.2.2.2).bind fun t110 => (some (t110, 0)))) else (some (([] : List (List Int)), t102)))
theorem z49.calls (k : Nat) (A0_0 : Option Addr) (c0_0 : Nat) (l0_0 : List (List Int)) (a1 : Int) (a2 : Int) (r1 : List (List Int)) (r2 : Int) (w : World) (hr0_0 : Kd.C (Kd.slice 2 (Kd.int .i64)) w A0_0 l0_0.length l0_0) (hc0_0 : l0_0.length ≤ c0_0) (h : z49.f k l0_0 a1 a2 = some (r1, r2)) :
  Calls Try.prog 49 #[.agg #[.slice A0_0 l0_0.length c0_0], .int .i64 a1, .int .i64 a2] w fun e w' => ∃ v0_ : Value, e = .returned (.tuple #[v0_, .int .i64 r2]) ∧ Kd.S (Kd.slice 2 (Kd.int .i64)) 26 w' w.heap.size (fun _ => True) v0_ r1 ∧ Below w.heap.size w w' := by
 have hu29 := Try.underlying29
 have hu48 := Try.underlying48
 have HR0_0 := Zz.mk hr0_0
 have HC0_0 := Zz.mk hc0_0
 clear hr0_0 hc0_0
 have HB := Zz.mk (Below.refl w.heap.size w)
 have H : ((z88.f k l0_0 a1 a2).bind fun t102 => (if t102 = 0 then ((z95.f k l0_0 a1 a2).bind fun bt103 => ((z103.f k bt103.1 bt103.2.1 bt103.2.2.1 bt103.2.2.2).bind fun t110 => (some (t110, 0)))) else (some (([] : List (List Int)), t102)))) = some (r1, r2) := h
 clear h
 replace H := OB_ H
 obtain ⟨t102, A40, H⟩ := H
 replace H : (if t102 = 0 then ((z95.f k l0_0 a1 a2).bind fun bt103 => ((z103.f k bt103.1 bt103.2.1 bt103.2.2.1 bt103.2.2.2).bind fun t110 => (some (t110, 0)))) else (some (([] : List (List Int)), t102))) = some (r1, r2) := H
 have A4 := Zz.mk A40
 clear A40
 by_cases c5 : t102 = 0
 ·rw [if_pos c5] at H
  have c5b0 : (t102 == 0) = true := beq_iff_eq.mpr c5
  have c5b1 : (t102 != 0) = false := bne_eq_false_iff_eq.mpr c5
  clear c5
  replace H := OB_ H
  obtain ⟨⟨t103, t104, t105, t106⟩, A60, H⟩ := H
  replace H : ((z103.f k t103 t104 t105 t106).bind fun t110 => (some (t110, 0))) = some (r1, r2) := H
  have A6 := Zz.mk A60
  clear A60
  replace H := OB_ H
  obtain ⟨t110, A70, H⟩ := H
  replace H : (some (t110, 0)) = some (r1, r2) := H
  have A7 := Zz.mk A70
  clear A70
  simp only [Option.some.injEq, Prod.mk.injEq] at H
  obtain ⟨rfl, rfl⟩ := H
  go_enter Try.func49, Try.ntmps49
  go_wp2_with (first | ((with_reducible refine gate_dst (N := 3) rfl ?_); refine box_event ?hg (N := 3) ?hd (cs := #[.slice A0_0 l0_0.length c0_0]) (t := 29) ?hr ?_; (case hd => rfl); (case hg => rfl); (case hr => first | (go_simp; done) | (go_simp; rfl)); intro gb101 hg w8 hbox hb; have BK101 := Zz.mk (hbox); have GW101 := Zz.mk ((by rw [hg]; exact (bS_ (B_ HB.out)) : w.heap.size ≤ gb101)); have GE101 := GW101; replace HB := Zz.mk (bT_ (B_ HB.out) hb); clear hb hbox hg) | ((with_reducible refine gC_ (f := 88) rfl ?_); refine GL_ (some 12) rfl rfl Try.func88 #[.pointer (some ⟨gb101, 0, none⟩), .int .i64 a1, .int .i64 a2] rfl (h := ?_); (with_reducible refine (z88.calls k gb101 A0_0 c0_0 l0_0 a1 a2 t102 _ ?side1 ?side2 ?side3 A4.out).mono ?_); (case side1 => refine BW_ ?_; exact BK101.out); (case side2 => exact KC_ (Kd.C_below HR0_0.out HB.out)); (case side3 => exact HC0_0.out); rintro e w9 ⟨rfl, hb⟩; refine ⟨_, rfl, ?_⟩; replace BK101 := Zz.mk (bB_ (g := gb101) (o := .cells #[.slice A0_0 l0_0.length c0_0] 29 (0, 0)) (KB_ BK101.out) hb); replace HB := Zz.mk (bT_ (B1_ HB.out GE101.out) hb); (try clear hb); (try clear hb2); (try clear hk); (try clear hi)) | ((with_reducible refine gC_ (f := 95) rfl ?_); refine GL_ (some 18) rfl rfl Try.func95 #[.pointer (some ⟨gb101, 0, none⟩), .int .i64 a1, .int .i64 a2] rfl (h := ?_); (with_reducible refine (z95.calls k gb101 A0_0 c0_0 l0_0 a1 a2 t103 t104 t105 t106 _ ?side1 ?side2 ?side3 A6.out).mono ?_); (case side1 => refine BW_ ?_; exact BK101.out); (case side2 => exact KC_ (Kd.C_below HR0_0.out HB.out)); (case side3 => exact HC0_0.out); rintro e w10 ⟨v107, rfl, ho0, hb⟩; refine ⟨_, rfl, ?_⟩; have HO108 := Zz.mk (Kd.R_lower ho0 (bS_ (B1_ HB.out GE101.out))); replace BK101 := Zz.mk (bB_ (g := gb101) (o := .cells #[.slice A0_0 l0_0.length c0_0] 29 (0, 0)) (KB_ BK101.out) hb); replace HB := Zz.mk (bT_ (B1_ HB.out GE101.out) hb); (try clear hb); (try clear hb2); (try clear hk); (try clear hi); (try clear ho0)) | ((with_reducible refine gate_dst (N := 9) rfl ?_); refine box_event ?hg (N := 9) ?hd (cs := #[.int .i64 0, .int .i64 0, .int .i64 0, .slice none 0 0]) (t := 48) ?hr ?_; (case hd => rfl); (case hg => rfl); (case hr => first | (go_simp; done) | (go_simp; rfl)); intro gb109 hg w11 hbox hb; have BK109 := Zz.mk (hbox); have GW109 := Zz.mk ((by rw [hg]; exact (bS_ (B1_ HB.out GE101.out)) : w.heap.size ≤ gb109)); have GE109 := GW109; have NB101_109 := Zz.mk ((by rw [hg]; exact Nat.ne_of_lt (blk_lt (g := gb101) (o := .cells #[.slice A0_0 l0_0.length c0_0] 29 (0, 0)) (KB_ BK101.out)) : gb101 ≠ gb109)); have NB109_101 := Zz.mk NB101_109.out.symm; replace HO108 := Zz.mk (Kd.R_below (KR_ HO108.out) hb); replace BK101 := Zz.mk (bB_ (g := gb101) (o := .cells #[.slice A0_0 l0_0.length c0_0] 29 (0, 0)) (KB_ BK101.out) hb); replace HB := Zz.mk (bT_ (B1_ HB.out GE101.out) hb); clear hb hbox hg; have hnb12 := NB109_101.out; have hnc12 := NB101_109.out; obtain ⟨hcz13_0, hcz13_1, hcz13_2, hcz13_3, hfz13_0, hfz13_1, hfz13_2, hfz13_3⟩ := Z4f_ BK109.out; obtain ⟨Ao14, co14, eo14⟩ := Kd.R_slice HO108.out; subst eo14) | ((with_reducible refine gC_ (f := 103) rfl ?_); refine GL_ (some 19) rfl rfl Try.func103 #[.pointer (some ⟨gb109, 0, none⟩)] rfl (h := ?_); (with_reducible refine (z103.calls k gb109 t103 t104 t105 Ao14 co14 t106 t110 _ ?side1 ?side2 ?side3 A7.out).mono ?_); (case side1 => refine BW_ ?_; refine bP_ (cs := #[.int .i64 t103, .int .i64 t104, .int .i64 t105, .slice none 0 0]) ?_ 3 _ rfl; refine BW_ ?_; refine bP_ (cs := #[.int .i64 t103, .int .i64 t104, .int .i64 0, .slice none 0 0]) ?_ 2 _ rfl; refine BW_ ?_; refine bP_ (cs := #[.int .i64 t103, .int .i64 0, .int .i64 0, .slice none 0 0]) ?_ 1 _ rfl; refine BW_ ?_; refine bP_ (cs := #[.int .i64 0, .int .i64 0, .int .i64 0, .slice none 0 0]) ?_ 0 _ rfl; refine BW_ ?_; exact BK109.out); (case side2 => refine (Kd.R_reads' (e := 2) (base := w.heap.size) (ok := fun k_ => True) (n := t106.length) (c := co14) ?_).2.2; exact (by refine RW_ ?_; exact (Kd.R_mono (Kd.R_far (p := ⟨gb109, 3, none⟩) (Kd.R_far (p := ⟨gb109, 2, none⟩) (Kd.R_far (p := ⟨gb109, 1, none⟩) (Kd.R_far (p := ⟨gb109, 0, none⟩) (Kd.R_types HO108.out BK109.out (by decide)) (fun _ hk => hk.2) (.int .i64 t103)) (fun _ hk => hk.2) (.int .i64 t104)) (fun _ hk => hk.2) (.int .i64 t105)) (fun _ hk => hk.2) (.slice Ao14 t106.length co14)) (fun _ h_ => h_.1)))); (case side3 => exact (Kd.R_reads' HO108.out).2.1); rintro e w15 ⟨v111, rfl, ho0, hb⟩; refine ⟨_, rfl, ?_⟩; have HO112 := Zz.mk (Kd.S_lower (Kd.S_new' ho0 (Kd.R_lt (by refine RW_ ?_; exact (Kd.R_mono (Kd.R_far (p := ⟨gb109, 3, none⟩) (Kd.R_far (p := ⟨gb109, 2, none⟩) (Kd.R_far (p := ⟨gb109, 1, none⟩) (Kd.R_far (p := ⟨gb109, 0, none⟩) (Kd.R_types HO108.out BK109.out (by decide)) (fun _ hk => hk.2) (.int .i64 t103)) (fun _ hk => hk.2) (.int .i64 t104)) (fun _ hk => hk.2) (.int .i64 t105)) (fun _ hk => hk.2) (.slice Ao14 t106.length co14)) (fun _ h_ => h_.1))))) (bS_ (B2_ HB.out GE101.out GE109.out))); replace HO108 := Zz.mk (Kd.R_below (by refine RW_ ?_; exact (Kd.R_mono (Kd.R_far (p := ⟨gb109, 3, none⟩) (Kd.R_far (p := ⟨gb109, 2, none⟩) (Kd.R_far (p := ⟨gb109, 1, none⟩) (Kd.R_far (p := ⟨gb109, 0, none⟩) (Kd.R_types HO108.out BK109.out (by decide)) (fun _ hk => hk.2) (.int .i64 t103)) (fun _ hk => hk.2) (.int .i64 t104)) (fun _ hk => hk.2) (.int .i64 t105)) (fun _ hk => hk.2) (.slice Ao14 t106.length co14)) (fun _ h_ => h_.1))) hb); replace BK101 := Zz.mk (bB_ (g := gb101) (o := .cells #[.slice A0_0 l0_0.length c0_0] 29 (0, 0)) (by refine BW_ ?_; refine bR_ ?_ NB101_109.out _; refine BW_ ?_; refine bR_ ?_ NB101_109.out _; refine BW_ ?_; refine bR_ ?_ NB101_109.out _; refine BW_ ?_; refine bR_ ?_ NB101_109.out _; refine BW_ ?_; exact BK101.out) hb); replace BK109 := Zz.mk (bB_ (g := gb109) (o := .cells #[.int .i64 t103, .int .i64 t104, .int .i64 t105, .slice Ao14 t106.length co14] 48 (0, 0)) (by refine BW_ ?_; refine bP_ (cs := #[.int .i64 t103, .int .i64 t104, .int .i64 t105, .slice none 0 0]) ?_ 3 _ rfl; refine BW_ ?_; refine bP_ (cs := #[.int .i64 t103, .int .i64 t104, .int .i64 0, .slice none 0 0]) ?_ 2 _ rfl; refine BW_ ?_; refine bP_ (cs := #[.int .i64 t103, .int .i64 0, .int .i64 0, .slice none 0 0]) ?_ 1 _ rfl; refine BW_ ?_; refine bP_ (cs := #[.int .i64 0, .int .i64 0, .int .i64 0, .slice none 0 0]) ?_ 0 _ rfl; refine BW_ ?_; exact BK109.out) hb); replace HB := Zz.mk (bT_ (B2_ HB.out GE101.out GE109.out) hb); (try clear hb); (try clear hb2); (try clear hk); (try clear hi); (try clear ho0)))
  go_ret2
  exact ⟨_, F_, by refine SW_ ?_; exact Kd.S_mono HO112.out (fun _ hk => trivial), B2_ HB.out GE101.out GE109.out⟩
 rw [if_neg c5] at H
 have c5b0 : (t102 == 0) = false := beq_eq_false_iff_ne.mpr c5
 have c5b1 : (t102 != 0) = true := bne_iff_ne.mpr c5
 simp only [Option.some.injEq, Prod.mk.injEq] at H
 obtain ⟨rfl, rfl⟩ := H
 go_enter Try.func49, Try.ntmps49
 go_wp2_with (first | ((with_reducible refine gate_dst (N := 3) rfl ?_); refine box_event ?hg (N := 3) ?hd (cs := #[.slice A0_0 l0_0.length c0_0]) (t := 29) ?hr ?_; (case hd => rfl); (case hg => rfl); (case hr => first | (go_simp; done) | (go_simp; rfl)); intro gb101 hg w16 hbox hb; have BK101 := Zz.mk (hbox); have GW101 := Zz.mk ((by rw [hg]; exact (bS_ (B_ HB.out)) : w.heap.size ≤ gb101)); have GE101 := GW101; replace HB := Zz.mk (bT_ (B_ HB.out) hb); clear hb hbox hg) | ((with_reducible refine gC_ (f := 88) rfl ?_); refine GL_ (some 12) rfl rfl Try.func88 #[.pointer (some ⟨gb101, 0, none⟩), .int .i64 a1, .int .i64 a2] rfl (h := ?_); (with_reducible refine (z88.calls k gb101 A0_0 c0_0 l0_0 a1 a2 t102 _ ?side1 ?side2 ?side3 A4.out).mono ?_); (case side1 => refine BW_ ?_; exact BK101.out); (case side2 => exact KC_ (Kd.C_below HR0_0.out HB.out)); (case side3 => exact HC0_0.out); rintro e w17 ⟨rfl, hb⟩; refine ⟨_, rfl, ?_⟩; replace BK101 := Zz.mk (bB_ (g := gb101) (o := .cells #[.slice A0_0 l0_0.length c0_0] 29 (0, 0)) (KB_ BK101.out) hb); replace HB := Zz.mk (bT_ (B1_ HB.out GE101.out) hb); (try clear hb); (try clear hb2); (try clear hk); (try clear hi)))
 go_ret2
 exact ⟨_, F_, by first | exact Kd.S_nil _ _ _ _ _ | exact Kd.N_nil _ _ _ _ _ | exact Kd.V_nil _ _ _ _ _ | exact Kd.Q_nil _ _ _ _ _ | exact Kd.R_nil _ _ _ _ _, B1_ HB.out GE101.out⟩
end Go.Proofs.Ytipkciildhghiaa.B
